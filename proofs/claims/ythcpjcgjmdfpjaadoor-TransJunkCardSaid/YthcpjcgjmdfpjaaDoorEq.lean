/- '==' on arrays of bytes, on questions, on records. -/
import Derived.Test.YthcpjcgjmdfpjaaDoorReader
import Derived.Laws.StructEq
namespace Go.Proofs.YthcpjcgjmdfpjaaDoor
open Go Go.RowKit
set_option maxRecDepth 100000

theorem run_part1 {P : Program} {t : TypeId} {d : TypeDesc} (ht : P.underlying t = some d) (hd : isAggD d = false) {cs : Array Value} {i : Nat} {v : Value} (hv : cs[i]? = some v) (w : World) : (part t cs i).run P w = .ok v w := by
  have hag : (isAgg t).run P w = .ok false w := by
    simp only [isAgg, Sem.run_bind, run_underlying ht, Result.andThen_ok]
    cases d <;> first | rfl | cases hd
  simp [part, hag, hv]

theorem run_equalIn_bytes {P : Program} (d : Nat) {t e n : TypeId} (ht : P.underlying t = some (.array n e)) (he : P.underlying e = some (.int .u8)) (hs : (P.info? e).map (·.size) = some 1) (xs ys : List UInt8) (hx : xs.length = n) (hy : ys.length = n) (w : World) :
    (Op.equalIn (d + 2) t (.agg (xs.map u8v).toArray) (.agg (ys.map u8v).toArray)).run P w = .ok (decide (xs = ys)) w := by
  obtain ⟨i, hi, hz⟩ := Option.map_eq_some_iff.1 hs
  have hsz : (sizeOf e).run P w = .ok 1 w := by simp [sizeOf, typeInfo, hi, hz]
  rw [show d + 2 = (d + 1) + 1 from rfl, Op.equalIn]
  simp only [Sem.run_bind, run_underlying ht, Result.andThen_ok, hsz, Std.Legacy.Range.forIn_eq_forIn_range', Std.Legacy.Range.size, Nat.sub_zero, Nat.add_sub_cancel, Nat.div_one]
  have key : ∀ (k j : Nat), j + k = n → xs.take j = ys.take j →
      (forIn (List.range' j k) ((none, ()) : Option Bool × Unit) (fun i r => do
        let a ← part e (xs.map u8v).toArray (i * 1)
        let b ← part e (ys.map u8v).toArray (i * 1)
        let q ← Op.equalIn (d + 1) e a b
        if (!q) = true then pure (ForInStep.done (some false, ())) else pure (ForInStep.yield (none, ())) : Nat → Option Bool × Unit → Sem (ForInStep (Option Bool × Unit)))).run P w = .ok (if xs = ys then (none, ()) else (some false, ())) w := by
    intro k
    induction k with
    | zero =>
      intro j hj ht
      have : xs = ys := by
        rw [List.take_of_length_le (by omega), List.take_of_length_le (by omega)] at ht
        exact ht
      simp [this]
    | succ k ih =>
      intro j hj htk
      have hjx : j < xs.length := by omega
      have hjy : j < ys.length := by omega
      rw [List.range'_succ, List.forIn_cons]
      have h1 : (part e (xs.map u8v).toArray (j * 1)).run P w = .ok (u8v xs[j]) w := run_part1 he rfl (by simp [hjx]) w
      have h2 : (part e (ys.map u8v).toArray (j * 1)).run P w = .ok (u8v ys[j]) w := run_part1 he rfl (by simp [hjy]) w
      have h3 : (Op.equalIn (d + 1) e (u8v xs[j]) (u8v ys[j])).run P w = .ok (decide (xs[j] = ys[j])) w := by
        unfold u8v
        rw [run_equalIn_int w d e .u8 .u8 _ _ he]
        congr 1
        by_cases hq : xs[j] = ys[j]
        · simp [hq]
        · have : ¬ ((xs[j].toNat : Int) = (ys[j].toNat : Int)) := fun h => hq (UInt8.toNat_inj.1 (by omega))
          simp [hq, this]
      simp only [Sem.run_bind, h1, h2, h3, Result.andThen_ok]
      by_cases hq : xs[j] = ys[j]
      · simp only [hq, decide_true, Bool.not_true, Bool.false_eq_true, if_false, Sem.run_pure, Result.andThen_ok]
        refine ih (j + 1) (by omega) ?_
        rw [List.take_succ_eq_append_getElem hjx, List.take_succ_eq_append_getElem hjy, htk, hq]
      · have hne : ¬ xs = ys := fun h => hq (by subst h; rfl)
        simp [hq, hne, Sem.run_pure]
  have hk := key n 0 (by omega) (by simp)
  rw [hk]
  by_cases h : xs = ys <;> simp [h, Sem.run_pure]

theorem eqlArr {P : Program} {t e n : TypeId} (ht : P.underlying t = some (.array n e)) (he : P.underlying e = some (.int .u8)) (hs : (P.info? e).map (·.size) = some 1) (xs ys : List UInt8) (hx : xs.length = n) (hy : ys.length = n) (w : World) :
    (binOp .eql t (.agg (xs.map u8v).toArray) (.agg (ys.map u8v).toArray)).run P w = .ok (.bool (decide (xs = ys))) w := by
  rw [run_eql_struct, run_equalIn_bytes 9998 ht he hs xs ys hx hy]; rfl
theorem neqArr {P : Program} {t e n : TypeId} (ht : P.underlying t = some (.array n e)) (he : P.underlying e = some (.int .u8)) (hs : (P.info? e).map (·.size) = some 1) (xs ys : List UInt8) (hx : xs.length = n) (hy : ys.length = n) (w : World) :
    (binOp .neq t (.agg (xs.map u8v).toArray) (.agg (ys.map u8v).toArray)).run P w = .ok (.bool (!decide (xs = ys))) w := by
  rw [run_neq_struct, run_equalIn_bytes 9998 ht he hs xs ys hx hy]; rfl

/-- An operation on two whole values. -/
theorem R.binAgg {P : Program} {l : Env} {w : World} {x y : Operand} {t ty : TypeId} {op : BinOp} {xs ys : Array Value} {v : Value} (hg : P.eqGuardType P.depth t = false) (hx : ev l x = some (.agg xs)) (hy : ev l y = some (.agg ys)) (h : (binOp op t (.agg xs) (.agg ys)).run P w = .ok v w) : Runs P l (.binOp op t x y ty) w v w := fun r _ _ _ _ _ he => by
  simp only [execOp, he x _ hx, he y _ hy, Sem.run_bind, run_eqGuard_agg w op t x y xs ys hg, Result.andThen_ok, h]
  rfl

/-- A record. -/
structure Rec where
  name : List UInt8
  type : Int
  ttl : Int
  addr : List UInt8
  text : List UInt8
  data : List UInt8
  deriving DecidableEq
/-- Its cells. -/
def Rec.cells (r : Rec) : List Value := sv r.name :: .int .i64 r.type :: .int .i64 r.ttl :: (r.addr.map u8v ++ [sv r.text, sv r.data])
def Rec.val (r : Rec) : Value := .agg r.cells.toArray
theorem Rec.length {r : Rec} (h : r.addr.length = 16) : r.cells.length = 21 := by simp [Rec.cells, h]
theorem Rec.at0 (r : Rec) : r.cells.toArray[0]? = some (sv r.name) := rfl
theorem Rec.at1 (r : Rec) : r.cells.toArray[1]? = some (.int .i64 r.type) := rfl
theorem Rec.at2 (r : Rec) : r.cells.toArray[2]? = some (.int .i64 r.ttl) := rfl
theorem Rec.at19 {r : Rec} (h : r.addr.length = 16) : r.cells.toArray[19]? = some (sv r.text) := by
  rw [List.getElem?_toArray]
  show (r.addr.map u8v ++ [sv r.text, sv r.data])[16]? = _
  rw [List.getElem?_append_right (by simp [h])]; simp [h]
theorem Rec.at20 {r : Rec} (h : r.addr.length = 16) : r.cells.toArray[20]? = some (sv r.data) := by
  rw [List.getElem?_toArray]
  show (r.addr.map u8v ++ [sv r.text, sv r.data])[17]? = _
  rw [List.getElem?_append_right (by simp [h])]; simp [h]
theorem Rec.atAddr {r : Rec} {j : Nat} {u : Value} (hj : (r.addr.map u8v)[j]? = some u) : r.cells.toArray[3 + j]? = some u := by
  have hlt := (List.getElem?_eq_some_iff.1 hj).1
  rw [Nat.add_comm, List.getElem?_toArray]
  show (r.addr.map u8v ++ [sv r.text, sv r.data])[j]? = _
  rw [List.getElem?_append_left hlt]; exact hj
theorem Rec.extractAddr {r : Rec} (h : r.addr.length = 16) : r.cells.toArray.extract 3 (3 + 16) = (r.addr.map u8v).toArray := by
  apply Array.ext'
  simp only [Array.toList_extract, Rec.cells, List.extract]
  show (r.addr.map u8v ++ [sv r.text, sv r.data]).take 16 = _
  rw [List.take_left' (by simp [h])]

theorem run_partAgg {P : Program} {t : TypeId} {d : TypeDesc} {s : Nat} (ht : P.underlying t = some d) (hd : isAggD d = true) (hs : (P.info? t).map (·.size) = some s) (cs : Array Value) (i : Nat) (w : World) : (part t cs i).run P w = .ok (.agg (cs.extract i (i + s))) w := by
  have hag : (isAgg t).run P w = .ok true w := by
    simp only [isAgg, Sem.run_bind, run_underlying ht, Result.andThen_ok]
    cases d <;> first | rfl | cases hd
  obtain ⟨f, hi, hz⟩ := Option.map_eq_some_iff.1 hs
  simp [part, hag, sizeOf, typeInfo, hi, hz]

theorem run_equalIn_str (d : Nat) (a b : List UInt8) (w : World) : (Op.equalIn (d + 1) 9 (sv a) (sv b)).run Tryd.prog w = .ok (decide (a = b)) w := by
  unfold sv
  rw [run_equalIn_string w d 9 _ _ Tryd.underlying9, ByteArray.toList_mk, ByteArray.toList_mk]
  congr 1 <;> (by_cases h : a = b <;> simp [h])
theorem run_equalIn_i64 (d : Nat) (a b : Int) (w : World) : (Op.equalIn (d + 1) 3 (.int .i64 a) (.int .i64 b)).run Tryd.prog w = .ok (decide (a = b)) w := by
  rw [run_equalIn_int w d 3 .i64 .i64 _ _ Tryd.underlying3]
  congr 1 <;> (by_cases h : a = b <;> simp [h])
theorem run_equalIn_addr (d : Nat) (a b : List UInt8) (ha : a.length = 16) (hb : b.length = 16) (w : World) : (Op.equalIn (d + 2) 27 (.agg (a.map u8v).toArray) (.agg (b.map u8v).toArray)).run Tryd.prog w = .ok (decide (a = b)) w :=
  run_equalIn_bytes d Tryd.underlying27 Tryd.underlying5 sz5 a b ha hb w

theorem eqFields_cons {P : Program} {d : Nat} {xs ys : Array Value} {f : Field} {fs : List Field} {va vb : Value} {c : Bool} {w : World} (hn : f.name ≠ "_") (ha : (part f.type xs f.offset).run P w = .ok va w) (hb : (part f.type ys f.offset).run P w = .ok vb w) (he : (Op.equalIn d f.type va vb).run P w = .ok c w) :
    (Op.eqFields d xs ys (f :: fs)).run P w = if c then (Op.eqFields d xs ys fs).run P w else .ok false w := by
  rw [Op.eqFields, if_pos hn]
  simp only [Sem.run_bind, ha, hb, he, Result.andThen_ok]
  cases c <;> rfl
theorem eqFields_nil {P : Program} {d : Nat} {xs ys : Array Value} {w : World} : (Op.eqFields d xs ys []).run P w = .ok true w := rfl

theorem run_equalIn_rec (d : Nat) (a b : Rec) (ha : a.addr.length = 16) (hb : b.addr.length = 16) (w : World) : (Op.equalIn (d + 3) 57 a.val b.val).run Tryd.prog w = .ok (decide (a = b)) w := by
  unfold Rec.val
  rw [run_equalIn_struct w (d + 2) 57 _ _ Tryd.underlying57 (by kernel_rfl)]
  have hf : (Tryd.prog.fieldsOf 57).toList = [{ name := "Name", type := 9, offset := 0, embedded := false, tag := "", pkgPath := "", byteOffset := 0 },
        { name := "Type", type := 3, offset := 1, embedded := false, tag := "", pkgPath := "", byteOffset := 16 },
        { name := "TTL", type := 3, offset := 2, embedded := false, tag := "", pkgPath := "", byteOffset := 24 },
        { name := "Addr", type := 27, offset := 3, embedded := false, tag := "", pkgPath := "", byteOffset := 32 },
        { name := "Text", type := 9, offset := 19, embedded := false, tag := "", pkgPath := "", byteOffset := 48 },
        { name := "Data", type := 9, offset := 20, embedded := false, tag := "", pkgPath := "", byteOffset := 64 }] := by kernel_rfl
  rw [hf]
  have p0 := fun (r : Rec) => run_part1 (P := Tryd.prog) Tryd.underlying9 rfl (Rec.at0 r) w
  have p1 := fun (r : Rec) => run_part1 (P := Tryd.prog) Tryd.underlying3 rfl (Rec.at1 r) w
  have p2 := fun (r : Rec) => run_part1 (P := Tryd.prog) Tryd.underlying3 rfl (Rec.at2 r) w
  have p3 := fun (r : Rec) (h : r.addr.length = 16) => (run_partAgg (P := Tryd.prog) Tryd.underlying27 rfl sz27 r.cells.toArray 3 w).trans (by rw [Rec.extractAddr h])
  have p4 := fun (r : Rec) (h : r.addr.length = 16) => run_part1 (P := Tryd.prog) Tryd.underlying9 rfl (Rec.at19 h) w
  have p5 := fun (r : Rec) (h : r.addr.length = 16) => run_part1 (P := Tryd.prog) Tryd.underlying9 rfl (Rec.at20 h) w
  have e1 := run_equalIn_str (d + 1)
  have e2 := run_equalIn_i64 (d + 1)
  have e3 := run_equalIn_addr d a.addr b.addr ha hb w
  have hab : decide (a = b) = (decide (a.name = b.name) && (decide (a.type = b.type) && (decide (a.ttl = b.ttl) && (decide (a.addr = b.addr) && (decide (a.text = b.text) && decide (a.data = b.data)))))) := by
    cases a; cases b; simp [Rec.mk.injEq]
  rw [hab]
  rw [eqFields_cons (f := ⟨"Name", 9, 0, false, "", "", 0⟩) (by decide) (p0 a) (p0 b) (e1 a.name b.name w), eqFields_cons (f := ⟨"Type", 3, 1, false, "", "", 16⟩) (by decide) (p1 a) (p1 b) (e2 a.type b.type w), eqFields_cons (f := ⟨"TTL", 3, 2, false, "", "", 24⟩) (by decide) (p2 a) (p2 b) (e2 a.ttl b.ttl w), eqFields_cons (f := ⟨"Addr", 27, 3, false, "", "", 32⟩) (by decide) (p3 a ha) (p3 b hb) e3, eqFields_cons (f := ⟨"Text", 9, 19, false, "", "", 48⟩) (by decide) (p4 a ha) (p4 b hb) (e1 a.text b.text w), eqFields_cons (f := ⟨"Data", 9, 20, false, "", "", 64⟩) (by decide) (p5 a ha) (p5 b hb) (e1 a.data b.data w), eqFields_nil]
  by_cases h1 : a.name = b.name <;> by_cases h2 : a.type = b.type <;> by_cases h3 : a.ttl = b.ttl <;> by_cases h4 : a.addr = b.addr <;> by_cases h5 : a.text = b.text <;> by_cases h6 : a.data = b.data <;> simp [h1, h2, h3, h4, h5, h6]
end Go.Proofs.YthcpjcgjmdfpjaaDoor
