/- MsgRight: the statement MsgRight is proved (its card); no conditions. Here: RightOps, MsgRight, MsgRightCard. -/
import Derived.Test.YthcpjcgjmdfpjaaDoorWordsMsg
import Derived.Test.YthcpjcgjmdfpjaaDoorWordsRec
import Derived.Test.YthcpjcgjmdfpjaaDoorCoreB
import Derived.Test.YthcpjcgjmdfpjaaDoorCoreE
namespace Go.Proofs.YthcpjcgjmdfpjaaDoor
open Go Go.ChangeShapes Go.WideShapes Go.ChangeAt Go.RowKit
set_option maxRecDepth 100000

theorem OP.callV {P : Program} {Q : Exit → Act → World → Prop} {n : Nat} {l : Env} {w : World} {M : Env → World → Prop} {t : TypeId} {pos : String} {af : Array Edge} {d : Nat} {x : Operand} {f : FuncId} {fn : Func} {args : List Operand} {ts : Array TypeId} {vals : List Value} {R : Ending → World → Prop} (hdn : d < n) (hx : ev l x = some (.func (.func f) #[] #[])) (hf : P.funcs[f]? = some fn) (hname : (fn.name == "runtime.NumGoroutine") = false) (hbody : fn.body.isNone = false)
    (hargs : evs l args = some vals) (hc : Calls P f vals.toArray w R) (h : ∀ ed w', R ed w' → ∃ v, ed = .returned v ∧ M ((d, v) :: l) w') :
    OP P Q ⟨some d, .call { callee := .value x, args := args.toArray, argTypes := ts }, t, pos, af, none⟩ n l w M := by
  intro a ha K hK
  unfold Oper.wp
  have hm := evs_map ha args vals hargs
  have hrun : (execOp a.eval ⟨some d, .call { callee := .value x, args := args.toArray, argTypes := ts }, t, pos, af, none⟩).run P w = .ok (.enter f vals.toArray) w := by
    have hcf : (callFunc f vals.toArray).run P w = .ok (.enter f vals.toArray) w := by
      unfold callFunc
      simp only [Sem.run_bind, run_program, Result.andThen_ok, hf, hname, hbody, Bool.false_eq_true, if_false]
      rfl
    have hmap : args.toArray.map a.eval = vals.toArray := by rw [List.map_toArray, hm]
    simp only [execOp, resolve, hmap, ha.ev hx, Deferred.ofValue, Sem.run_bind, Sem.run_pure, Result.andThen_ok, invoke, Array.append_empty, Array.empty_append]
    exact hcf
  rw [hrun, Oper.upon_enter]
  refine hc.mono ?_
  intro ed w' hR
  obtain ⟨v, rfl, hM⟩ := h ed w' hR
  exact hK _ _ hM _ (ha.put hdn v)

/-! ### Weights -/
theorem weightsEach_mem {H : Type} {P : Program} {n : Nat} : ∀ {ts : List TypeId} {ds : List (DataW H)} {i : Nat} {t : TypeId} {d : DataW H}, ts[i]? = some t → ds[i]? = some d → n ∈ d.weights P t → n ∈ DataW.weightsEach P ts ds
  | [], _, _, _, _, h, _, _ => by simp at h
  | _ :: _, [], _, _, _, _, h, _ => by simp at h
  | t :: ts, d :: ds, 0, t', d', h1, h2, h => by
    simp only [List.getElem?_cons_zero, Option.some.injEq] at h1 h2
    subst h1 h2
    simp only [DataW.weightsEach]
    exact List.mem_append_left _ h
  | t :: ts, d :: ds, i + 1, t', d', h1, h2, h => by
    simp only [DataW.weightsEach]
    exact List.mem_append_right _ (weightsEach_mem (i := i) (by simpa using h1) (by simpa using h2) h)
section
variable {H : Type} {enc : TypeId × Value → H} {W : World} {B : Nat} {sp : Nat → Bool} {hd : Bool} {fuel : Nat} {cs : List Value} {x : DataW H × List MemPlace}
/-- A field's cells, and its weights. -/
theorem field_w {t : Nat} {fs : Array Field} (ht : Tryd.prog.underlying t = some (.struct fs)) (h : DataW.trod enc Tryd.prog W B sp hd fuel t cs = some x) (i : Nat) {f : Field} (hf : fs[i]? = some f) {o ty n : Nat} (ho : f.offset = o) (hty : f.type = ty) (hn : Tryd.prog.cellsOf ty = n) :
    ∃ fuel y, DataW.trod enc Tryd.prog W B sp hd fuel ty ((cs.drop o).take n) = some y ∧ ∀ k ∈ y.1.weights Tryd.prog ty, k ∈ x.1.weights Tryd.prog t := by
  obtain ⟨xs, m, _, hx, _, hxl, hel⟩ := DataW.trod_struct ht h
  have h1 := hel i f hf
  rw [ho, hty, hn] at h1
  have hi : i < fs.size := (Array.getElem?_eq_some_iff.1 hf).1
  rw [List.getElem?_eq_getElem (by omega)] at h1
  refine ⟨m, _, h1, fun k hk => ?_⟩
  rw [hx]
  simp only [DataW.weights, ht]
  refine weightsEach_mem (i := i) (t := ty) (d := xs[i].1) ?_ ?_ hk
  · rw [List.getElem?_map, Array.getElem?_toList, hf]; simp [hty]
  · rw [List.getElem?_map, List.getElem?_eq_getElem (by omega)]; rfl
theorem str_w (h : DataW.trod enc Tryd.prog W B sp hd fuel 9 cs = some x) : ∃ s : List UInt8, cs = [sv s] ∧ s.length ∈ x.1.weights Tryd.prog 9 := by
  obtain ⟨s, rfl, hx, hw⟩ := DataW.trod_string Tryd.underlying9 h
  refine ⟨s.data.toList, by rw [sv_of], ?_⟩
  rw [hx]
  simp [DataW.weights]
theorem slice_w (h : DataW.trod enc Tryd.prog W B sp hd fuel 31 cs = some x) : ∃ A m c, cs = [.slice A m c] ∧ (m = 0 ∨ ∃ k ∈ x.1.weights Tryd.prog 31, m ≤ k) := by
  rcases DataW.trod_slice Tryd.underlying31 h with ⟨rfl, _⟩ | ⟨a, len, cap, elems, rest, n, _, rfl, hx, _, _, _, hel, _⟩
  · exact ⟨none, 0, 0, rfl, .inl rfl⟩
  · refine ⟨some a, len, cap, rfl, .inr ⟨(elems.length + rest.length) * Tryd.prog.bytesOf 57, ?_, ?_⟩⟩
    · rw [hx]
      simp [DataW.weights, Tryd.underlying31]
    · rw [show Tryd.prog.bytesOf 57 = 80 by kernel_rfl]; omega
end
theorem weight_le {H : Type} {ts : List TypeId} {ds : List (DataW H)} {i : Nat} {t : TypeId} {d : DataW H} {n : Nat} (hw : (DataW.weightsEach Tryd.prog ts ds).all (· ≤ reachBytes) = true) (h1 : ts[i]? = some t) (h2 : ds[i]? = some d) (h : n ∈ d.weights Tryd.prog t) : n ≤ 140737488351232 := by
  have := List.all_eq_true.1 hw n (weightsEach_mem h1 h2 h)
  have e : reachBytes = 140737488351232 := by kernel_rfl
  have h3 : n ≤ reachBytes := by simpa using this
  omega
/-- The record and the message of MsgRight, opened. -/
theorem open_right {H : Type} {enc : TypeId × Value → H} {W : World} {base : Nat} {v0 v1 : Value} {d0 d1 : DataW H} {p0 p1 : List MemPlace} {sp : Nat → Bool} (hval0 : Value.okWide Tryd.prog W .any base 57 v0) (hd0 : DataW.Trod enc Tryd.prog W 0 sp true 57 v0 d0 p0) (hval1 : Value.okWide Tryd.prog W .any base 33 v1) (hd1 : DataW.Trod enc Tryd.prog W 0 sp true 33 v1 d1 p1)
    (hw : (DataW.weightsEach Tryd.prog [57, 33] [d0, d1]).all (· ≤ reachBytes) = true) :
    ∃ (r : Rec) (m : Msg) (A : Option Addr) (la ca : Nat) (B : Option Addr) (lb cb : Nat), v0 = r.val ∧ v1 = .agg (m.cells (.slice A la ca) (.slice B lb cb)).toArray ∧ r.addr.length = 16 ∧ m.ans = [] ∧ m.auth = [] ∧ r.name.length ≤ 140737488351232 ∧ r.text.length ≤ 140737488351232 ∧ r.data.length ≤ 140737488351232 ∧ m.qname.length ≤ 140737488351232 ∧ la ≤ 140737488351232 ∧ lb ≤ 140737488351232 := by
  obtain ⟨cs0, rfl⟩ := agg_of Tryd.underlying57 rfl hval0
  obtain ⟨cs1, rfl⟩ := agg_of Tryd.underlying33 rfl hval1
  obtain ⟨fuel, hf⟩ := hd0
  obtain ⟨fuel1, hf1⟩ := hd1
  have W0 : ∀ k ∈ d0.weights Tryd.prog 57, k ≤ 140737488351232 := fun k hk => weight_le hw (i := 0) rfl rfl hk
  have W1 : ∀ k ∈ d1.weights Tryd.prog 33, k ≤ 140737488351232 := fun k hk => weight_le hw (i := 1) rfl rfl hk
  have hl := struct_len Tryd.underlying57 hf
  rw [show Tryd.prog.cellsOf 57 = 21 by kernel_rfl] at hl
  obtain ⟨_, _, h0, q0⟩ := field_w Tryd.underlying57 hf 0 rfl (o := 0) (ty := 9) (n := 1) rfl rfl (by kernel_rfl)
  obtain ⟨_, _, h1, _⟩ := field_w Tryd.underlying57 hf 1 rfl (o := 1) (ty := 3) (n := 1) rfl rfl (by kernel_rfl)
  obtain ⟨_, _, h2, _⟩ := field_w Tryd.underlying57 hf 2 rfl (o := 2) (ty := 3) (n := 1) rfl rfl (by kernel_rfl)
  obtain ⟨_, _, h3, _⟩ := field_w Tryd.underlying57 hf 3 rfl (o := 3) (ty := 27) (n := 16) rfl rfl (by kernel_rfl)
  obtain ⟨_, _, h4, q4⟩ := field_w Tryd.underlying57 hf 4 rfl (o := 19) (ty := 9) (n := 1) rfl rfl (by kernel_rfl)
  obtain ⟨_, _, h5, q5⟩ := field_w Tryd.underlying57 hf 5 rfl (o := 20) (ty := 9) (n := 1) rfl rfl (by kernel_rfl)
  obtain ⟨a, e0, b0⟩ := str_w h0
  obtain ⟨b, e1, b1⟩ := one_int _ _ _ h1
  obtain ⟨c, e2, b2⟩ := one_int _ _ _ h2
  obtain ⟨d, e3, b3⟩ := trod_addr h3
  obtain ⟨e, e4, b4⟩ := str_w h4
  obtain ⟨f, e5, b5⟩ := str_w h5
  have hl1 := struct_len Tryd.underlying33 hf1
  rw [show Tryd.prog.cellsOf 33 = 9 by kernel_rfl] at hl1
  obtain ⟨_, _, g0, _⟩ := field_w Tryd.underlying33 hf1 0 rfl (o := 0) (ty := 3) (n := 1) rfl rfl (by kernel_rfl)
  obtain ⟨_, _, g1, _⟩ := field_w Tryd.underlying33 hf1 1 rfl (o := 1) (ty := 4) (n := 1) rfl rfl (by kernel_rfl)
  obtain ⟨_, _, g2, _⟩ := field_w Tryd.underlying33 hf1 2 rfl (o := 2) (ty := 4) (n := 1) rfl rfl (by kernel_rfl)
  obtain ⟨_, _, g3, _⟩ := field_w Tryd.underlying33 hf1 3 rfl (o := 3) (ty := 4) (n := 1) rfl rfl (by kernel_rfl)
  obtain ⟨_, _, g4, _⟩ := field_w Tryd.underlying33 hf1 4 rfl (o := 4) (ty := 3) (n := 1) rfl rfl (by kernel_rfl)
  obtain ⟨_, _, g5, r5⟩ := field_w Tryd.underlying33 hf1 5 rfl (o := 5) (ty := 25) (n := 2) rfl rfl (by kernel_rfl)
  obtain ⟨_, _, g6, r6⟩ := field_w Tryd.underlying33 hf1 6 rfl (o := 7) (ty := 31) (n := 1) rfl rfl (by kernel_rfl)
  obtain ⟨_, _, g7, r7⟩ := field_w Tryd.underlying33 hf1 7 rfl (o := 8) (ty := 31) (n := 1) rfl rfl (by kernel_rfl)
  obtain ⟨_, _, k0, s0⟩ := field_w Tryd.underlying25 g5 0 rfl (o := 0) (ty := 9) (n := 1) rfl rfl (by kernel_rfl)
  obtain ⟨_, _, k1, _⟩ := field_w Tryd.underlying25 g5 1 rfl (o := 1) (ty := 3) (n := 1) rfl rfl (by kernel_rfl)
  obtain ⟨i0, f0, _⟩ := one_int _ _ _ g0
  obtain ⟨i1, f1⟩ := one_bool _ _ _ g1
  obtain ⟨i2, f2⟩ := one_bool _ _ _ g2
  obtain ⟨i3, f3⟩ := one_bool _ _ _ g3
  obtain ⟨i4, f4, _⟩ := one_int _ _ _ g4
  obtain ⟨i5, f5, t5⟩ := str_w k0
  obtain ⟨i6, f6, _⟩ := one_int _ _ _ k1
  obtain ⟨A, la, ca, f7, t7⟩ := slice_w g6
  obtain ⟨B', lb, cb, f8, t8⟩ := slice_w g7
  refine ⟨⟨a, b, c, d, e, f⟩, ⟨i0, i1, i2, i3, i4, i5, i6, [], []⟩, A, la, ca, B', lb, cb, ?_, ?_, b3, rfl, rfl, W0 _ (q0 _ b0), W0 _ (q4 _ b4), W0 _ (q5 _ b5), W1 _ (r5 _ (s0 _ t5)), ?_, ?_⟩
  · have hz : cs0.toList.drop 21 = [] := List.drop_eq_nil_of_le (by rw [show (Value.agg cs0).cells.toList = cs0.toList from rfl] at hl; omega)
    have s0 := drop_split (cs := cs0.toList) (k := 0) (n := 1)
    have s1 := drop_split (cs := cs0.toList) (k := 1) (n := 1)
    have s2 := drop_split (cs := cs0.toList) (k := 2) (n := 1)
    have s3 := drop_split (cs := cs0.toList) (k := 3) (n := 16)
    have s4 := drop_split (cs := cs0.toList) (k := 19) (n := 1)
    have s5 := drop_split (cs := cs0.toList) (k := 20) (n := 1)
    simp only [Nat.zero_add, Nat.reduceAdd] at s0 s1 s2 s3 s4 s5
    rw [show (Value.agg cs0).cells.toList = cs0.toList from rfl] at e0 e1 e2 e3 e4 e5
    rw [e0, s1, e1, s2, e2, s3, e3, s4, e4, s5, e5, hz, List.drop_zero] at s0
    have : cs0 = (Rec.cells ⟨a, b, c, d, e, f⟩).toArray := by apply Array.ext'; rw [s0]; rfl
    rw [this]; rfl
  · have hz : cs1.toList.drop 9 = [] := List.drop_eq_nil_of_le (by rw [show (Value.agg cs1).cells.toList = cs1.toList from rfl] at hl1; omega)
    rw [show (Value.agg cs1).cells.toList = cs1.toList from rfl] at f0 f1 f2 f3 f4 f5 f6 f7 f8
    have u5 : (cs1.toList.drop 5).take 1 = [sv i5] := by
      have : ((cs1.toList.drop 5).take 2).drop 0 = (cs1.toList.drop 5).take 2 := rfl
      rw [this, List.take_take] at f5; exact f5
    have u6 : (cs1.toList.drop 6).take 1 = [.int .i64 i6] := by
      rw [List.drop_take, List.drop_drop, List.take_take] at f6; exact f6
    have s0 := drop_split (cs := cs1.toList) (k := 0) (n := 1)
    have s1 := drop_split (cs := cs1.toList) (k := 1) (n := 1)
    have s2 := drop_split (cs := cs1.toList) (k := 2) (n := 1)
    have s3 := drop_split (cs := cs1.toList) (k := 3) (n := 1)
    have s4 := drop_split (cs := cs1.toList) (k := 4) (n := 1)
    have s5 := drop_split (cs := cs1.toList) (k := 5) (n := 1)
    have s6 := drop_split (cs := cs1.toList) (k := 6) (n := 1)
    have s7 := drop_split (cs := cs1.toList) (k := 7) (n := 1)
    have s8 := drop_split (cs := cs1.toList) (k := 8) (n := 1)
    simp only [Nat.zero_add, Nat.reduceAdd] at s0 s1 s2 s3 s4 s5 s6 s7 s8
    rw [f0, s1, f1, s2, f2, s3, f3, s4, f4, s5, u5, s6, u6, s7, f7, s8, f8, hz, List.drop_zero] at s0
    have : cs1 = (Msg.cells ⟨i0, i1, i2, i3, i4, i5, i6, [], []⟩ (.slice A la ca) (.slice B' lb cb)).toArray := by apply Array.ext'; rw [s0]; rfl
    rw [this]
  · rcases t7 with h | ⟨k, hk, hle⟩
    · omega
    · have := W1 _ (r6 _ hk); omega
  · rcases t8 with h | ⟨k, hk, hle⟩
    · omega
    · have := W1 _ (r7 _ hk); omega

/-! ### What a record must be -/
def headR (r : Rec) : Bool := namesL r.name && decide (r.ttl ≥ 0) && decide (r.ttl ≤ 1048576)
theorem right1 {r : Rec} (h : r.type = 1) : rightR r = (headR r && decide (r.addr.take 12 = mappedL) && decide (r.text = []) && decide (r.data = [])) := by
  unfold rightR headR
  simp only [h, if_true]
  cases namesL r.name <;> by_cases h1 : 0 ≤ r.ttl <;> by_cases h2 : r.ttl ≤ 1048576 <;> by_cases h3 : r.addr.take 12 = mappedL <;> by_cases h4 : r.text = [] <;> by_cases h5 : r.data = [] <;> simp [h1, h2, h3, h4, h5]
theorem right28 {r : Rec} (h : r.type = 28) : rightR r = (headR r && decide (r.text = []) && decide (r.data = [])) := by
  unfold rightR headR
  rw [if_neg (by omega), if_pos h]
  cases namesL r.name <;> by_cases h1 : 0 ≤ r.ttl <;> by_cases h2 : r.ttl ≤ 1048576 <;> by_cases h4 : r.text = [] <;> by_cases h5 : r.data = [] <;> simp [h1, h2, h4, h5]
theorem right2 {r : Rec} (h : r.type = 2 ∨ r.type = 5 ∨ r.type = 12) : rightR r = (headR r && decide (r.data = []) && decide (r.addr = zero16) && namesL r.text) := by
  unfold rightR headR
  rw [if_neg (by omega), if_neg (by omega), if_pos h]
  cases namesL r.name <;> cases namesL r.text <;> by_cases h1 : 0 ≤ r.ttl <;> by_cases h2 : r.ttl ≤ 1048576 <;> by_cases h4 : r.addr = zero16 <;> by_cases h5 : r.data = [] <;> simp [h1, h2, h4, h5]
theorem rightO {r : Rec} (h1 : ¬ r.type = 1) (h28 : ¬ r.type = 28) (h2 : ¬ (r.type = 2 ∨ r.type = 5 ∨ r.type = 12)) : rightR r = (headR r && decide (r.type > 0) && decide (r.type ≤ 65535) && decide (r.text = []) && decide (r.addr = zero16) && decide ((r.data.length : Int) ≤ 255)) := by
  unfold rightR headR
  rw [if_neg h1, if_neg h28, if_neg h2]
  have e1 : decide (r.type < 65536) = decide (r.type ≤ 65535) := decide_eq_decide.2 (by omega)
  have e2 : decide (r.data.length ≤ 255) = decide ((r.data.length : Int) ≤ 255) := decide_eq_decide.2 (by omega)
  rw [e1, e2]
  cases namesL r.name <;> by_cases k1 : 0 ≤ r.ttl <;> by_cases k2 : r.ttl ≤ 1048576 <;> by_cases k3 : 0 < r.type <;> by_cases k4 : r.type ≤ 65535 <;> by_cases k5 : r.text = [] <;> by_cases k6 : r.addr = zero16 <;> by_cases k7 : (r.data.length : Int) ≤ 255 <;> simp [k1, k2, k3, k4, k5, k6, k7]
def vTo (a : List UInt8) (h : Bool) (j : Nat) : Bool := h && (a.take j).all (fun c => decide ((c.toNat : Int) = 0))
theorem vTo_succ {a : List UInt8} {h : Bool} {j : Nat} {x : UInt8} (hx : a[j]? = some x) : vTo a h (j + 1) = (vTo a h j && decide ((x.toNat : Int) = 0)) := by
  unfold vTo
  rw [List.take_add_one, hx, List.all_append]
  simp [Bool.and_assoc]
theorem vTo_all {a : List UInt8} (h16 : a.length = 16) {c10 c11 : UInt8} (h10 : a[10]? = some c10) (h11 : a[11]? = some c11) : vTo a (decide ((c10.toNat : Int) = 255) && decide ((c11.toNat : Int) = 255)) 10 = decide (a.take 12 = mappedL) := by
  obtain ⟨a0, a1, a2, a3, a4, a5, a6, a7, a8, a9, b0, b1, b2, b3, b4, b5, rfl⟩ := list16 h16
  obtain rfl : b0 = c10 := Option.some.inj h10
  obtain rfl : b1 = c11 := Option.some.inj h11
  have z : ∀ c : UInt8, decide ((c.toNat : Int) = 0) = decide (c = 0) := fun c => decide_eq_decide.2 ⟨fun h => UInt8.toNat_inj.1 (by rw [show (0 : UInt8).toNat = 0 from rfl]; omega), fun h => by rw [h]; rfl⟩
  have y : ∀ c : UInt8, decide ((c.toNat : Int) = 255) = decide (c = 255) := fun c => decide_eq_decide.2 ⟨fun h => UInt8.toNat_inj.1 (by rw [show (255 : UInt8).toNat = 255 from rfl]; omega), fun h => by rw [h]; rfl⟩
  unfold vTo
  simp only [z, y, List.take_succ_cons, List.take_zero, List.all_cons, List.all_nil, Bool.and_true]
  rw [Bool.eq_iff_iff]
  simp only [Bool.and_eq_true, decide_eq_true_eq, mappedL, List.cons.injEq, and_true]
  constructor
  · rintro ⟨⟨h1, h2⟩, h3, h4, h5, h6, h7, h8, h9, h10, h11, h12⟩
    exact ⟨h3, h4, h5, h6, h7, h8, h9, h10, h11, h12, h1, h2⟩
  · rintro ⟨h3, h4, h5, h6, h7, h8, h9, h10, h11, h12, h1, h2⟩
    exact ⟨⟨h1, h2⟩, h3, h4, h5, h6, h7, h8, h9, h10, h11, h12⟩
theorem all0 {m : Msg} (ha : m.ans = []) (hu : m.auth = []) : allM m = (decide (m.id ≥ 0) && decide (m.id ≤ 65535) && decide (m.code ≥ 0) && decide (m.code ≤ 15) && namesL m.qname && decide (m.qtype ≥ 1) && decide (m.qtype ≤ 65535)) := by
  unfold allM
  rw [ha, hu]
  simp
theorem all1 {m : Msg} {r : Rec} (ha : m.ans = []) (hu : m.auth = []) : allM { m with ans := [r] } = (allM m && rightR r) := by
  unfold allM
  rw [ha, hu]
  simp
end Go.Proofs.YthcpjcgjmdfpjaaDoor

namespace Go.Proofs.YthcpjcgjmdfpjaaDoor
open Go Go.RowKit
set_option maxRecDepth 100000
set_option maxHeartbeats 4000000

theorem R.eqlBT {l : Env} {w : World} {x y : Operand} {ty : TypeId} {a b : Bool} (hx : ev l x = some (.bool a)) (hy : ev l y = some (.bool b)) (h : a = b) : Runs Tryd.prog l (.binOp .eql 4 x y ty) w (.bool true) w := R.eqlB hx hy (by rw [h]; cases b <;> rfl)
theorem R.eql27D {l : Env} {w : World} {x y : Operand} {ty : TypeId} {a b : List UInt8} (ha : a.length = 16) (hb : b.length = 16) (hx : ev l x = some (.agg (a.map u8v).toArray)) (hy : ev l y = some (.agg (b.map u8v).toArray)) : Runs Tryd.prog l (.binOp .eql 27 x y ty) w (.bool (decide (a = b))) w := R.eql27 ha hb hx hy rfl
theorem RSl.empty (w : World) (A : Option Addr) (c : Nat) : RSl w (.slice A 0 c) [] := ⟨OkA.nil, A, c, rfl, Nat.zero_le _, fun h => absurd rfl h⟩
theorem small0 {m : Msg} (ha : m.ans = []) (hu : m.auth = []) (h : m.qname.length ≤ 1099511627776) : m.small := by
  refine ⟨h, by rw [ha]; exact Nat.zero_le _, by rw [hu]; exact Nat.zero_le _, fun r hr => ?_⟩
  rw [ha, hu] at hr; cases hr
theorem small1 {m : Msg} {r : Rec} (hu : m.auth = []) (h : m.qname.length ≤ 1099511627776) (h1 : r.name.length ≤ 1099511627776) (h2 : r.text.length ≤ 1099511627776) (h3 : r.data.length ≤ 1099511627776) : ({ m with ans := [r] } : Msg).small := by
  refine ⟨h, by simp, by show m.auth.length ≤ _; rw [hu]; exact Nat.zero_le _, fun x hx => ?_⟩
  have : x = r := by
    have hx2 : x ∈ [r] ++ m.auth := hx
    rw [hu] at hx2; simpa using hx2
  subst this
  exact ⟨h1, h2, h3⟩
theorem all_snoc {ls : List (List UInt8)} {b : Bool} {j : Nat} {x : List UInt8} (hx : ls[j]? = some x) : (b && (ls.take (j + 1)).all rightL) = ((b && (ls.take j).all rightL) && rightL x) := by
  rw [List.take_add_one, hx, List.all_append]
  simp [Bool.and_assoc]
theorem names_order (s : List UInt8) : namesL s = ((decide ((s.length : Int) ≤ 253) && decide (lower s = s)) && (splitL s).all rightL) := by
  unfold namesL
  have e1 : decide (s.length ≤ 253) = decide ((s.length : Int) ≤ 253) := decide_eq_decide.2 (by omega)
  rw [e1]
  by_cases h : lower s = s <;> simp [h]
theorem goes_any (s : List UInt8) (w0 : World) (hl : s.length ≤ 1099511627776) : Calls Tryd.prog 37 #[sv s] w0 fun e w' => e = .returned (.bool (namesL s)) ∧ Chg (fun _ => False) w0 w' := by
  have hC := Chg.refl (fun _ => False) w0
  refine calls_cw (args := [sv s]) Tryd.func37 rfl rfl ?_
  show CW _ _ _ 29 [(0, sv s)] w0
  refine CW.rseq ?_
  refine WL.op (by decide) (R.assign rfl) ?_
  refine WL.next ?_
  refine CW.rseq ?_
  refine WL.cut 10 (fun le w' => Chg (fun _ => False) w0 w' ∧ ∃ b1, b1 = (decide ((s.length : Int) ≤ 253) && decide (lower s = s)) ∧ le = [(0, sv s), (3, .bool b1)]) ?_ ?_
  ·
    refine WL.op (by decide) (R.move rfl) ?_
    refine WL.op (by decide) (R.lenS rfl rfl) ?_
    refine WL.leqS (by decide) rfl rfl (fun h1 => ?_) (fun h1 => ?_)
    · skip
      refine WL.op (by decide) (R.move rfl) ?_
      refine WL.gop (by decide) rfl rfl rfl (R.move rfl) ?_
      refine WL.geff rfl rfl rfl (OP.call (by decide) Tryd.func38 (by kernel_rfl) (by kernel_rfl) rfl (lower_any _ _ hl) ?_)
      rintro ed w1 ⟨rfl, hc_w1⟩
      refine ⟨_, rfl, ?_⟩
      have hC := hC.trans hc_w1
      have hz_w1 := hc_w1.size
      refine WL.gop (by decide) rfl rfl rfl (R.move rfl) ?_
      refine WL.gsplit _ (by decide) rfl rfl rfl (R.eqlStr (a := lower s) (b := s) rfl rfl) (fun h2 => ?_) (fun h2 => ?_)
      · skip
        refine WL.op (by decide) (R.pickT rfl rfl) ?_
        refine WL.op (by decide) (R.assign rfl) ?_
        exact WL.cutEnd [0, 3] ⟨hC, true, by simp [h1, h2], rfl⟩
      · skip
        refine WL.op (by decide) (R.pickT rfl rfl) ?_
        refine WL.op (by decide) (R.assign rfl) ?_
        exact WL.cutEnd [0, 3] ⟨hC, false, by simp [h1, h2], rfl⟩
    · skip
      refine WL.op (by decide) (R.move rfl) ?_
      refine WL.pass (by decide) rfl rfl rfl ?_
      refine WL.pass (by decide) rfl rfl rfl ?_
      refine WL.pass (by decide) rfl rfl rfl ?_
      refine WL.pass (by decide) rfl rfl rfl ?_
      refine WL.op (by decide) (R.pickF rfl rfl) ?_
      refine WL.op (by decide) (R.assign rfl) ?_
      exact WL.cutEnd [0, 3] ⟨hC, false, by simp [h1], rfl⟩
  · rintro le wz2 ⟨hc_wz2, b1, hb1, rfl⟩
    have hC := hC.trans hc_wz2
    have hz_wz2 := hc_wz2.size
    refine WL.next ?_
    refine CW.seq ?_
    refine CW.rseq ?_
    refine WL.op (by decide) (R.move rfl) ?_
    refine WL.eff rfl (OP.call (by decide) Tryd.func39 (by kernel_rfl) (by kernel_rfl) rfl (split_any _ _ hl) ?_)
    rintro ed w3 ⟨vS, rfl, hSB, hc_w3⟩
    rcases hSB.open with ⟨_, hn⟩ | ⟨gs, cap, rfl, hgs1, hgs2, hcap, hscell⟩
    · exact absurd hn (splitL_ne s)
    refine ⟨_, rfl, ?_⟩
    have hC := hC.trans hc_w3
    have hz_w3 := hc_w3.size
    refine WL.op (by decide) (R.lenSlice rfl Tryd.underlying80 rfl) ?_
    refine WL.op (by decide) (R.move rfl) ?_
    refine WL.next ?_
    refine CW.block ?_
    refine CW.loopK [3, 16, 17, 18] (fun k le wr => w3 = wr ∧ ∃ (j : Nat) (jj : Int) (b : Bool), j + k = (splitL s).length ∧ jj = (j : Int) ∧ b = (b1 && ((splitL s).take j).all rightL) ∧ le = [(3, .bool b), (16, .slice (some ⟨gs, 0, none⟩) (splitL s).length cap), (17, .int .i64 ((splitL s).length : Nat)), (18, .int .i64 jj)]) ((splitL s).length) ?_ ?_
    · exact ⟨rfl, 0, 0, b1, by omega, rfl, by simp, rfl⟩
    · rintro k le wr ⟨rfl, j, jj, b, hk, rfl, hb, rfl⟩
      have hsl := splitL_length s
      refine CW.rseq ?_
      refine WL.lssS (by decide) rfl rfl (fun h3 => ?_) (fun h3 => ?_)
      · skip
        refine WL.next ?_
        refine CW.seq ?_
        refine CW.condT rfl ?_
        refine CW.skip ?_
        refine EW.next ?_
        refine CW.seq ?_
        refine CW.block ?_
        refine CW.rseq ?_
        obtain ⟨x, hx⟩ : ∃ x, (splitL s)[j]? = some x := ⟨(splitL s)[j]'(by omega), List.getElem?_eq_getElem _⟩
        refine WL.op (by decide) (R.indexAddr1 (i := j) Tryd.underlying80 sz9 rfl rfl rfl (by omega)) ?_
        refine WL.op (by decide) (R.load Tryd.underlying9 rfl rfl (by rw [Nat.zero_add, Nat.mul_one]; exact hscell j x hx)) ?_
        refine WL.op (by decide) (R.assign rfl) ?_
        refine WL.next ?_
        refine CW.region ?_
        refine WL.op (by decide) (R.move rfl) ?_
        cases b
        · skip
          skip
          refine WL.op (by decide) (R.move rfl) ?_
          refine WL.pass (by decide) rfl rfl rfl ?_
          refine WL.pass (by decide) rfl rfl rfl ?_
          refine WL.op (by decide) (R.pickF rfl rfl) ?_
          refine WL.op (by decide) (R.assign rfl) ?_
          refine WL.nil ?_
          refine EW.inNormal ?_
          refine EW.next ?_
          refine CW.region ?_
          refine WL.op (by decide) (R.add rfl rfl (by omega)) ?_
          refine WL.op (by decide) (R.move rfl) ?_
          refine WL.nil ?_
          exact EW.roundK [3, 16, 17, 18] (k - 1) (by omega) ⟨rfl, j + 1, _, false, by omega, by omega, by rw [all_snoc hx, ← hb]; simp, rfl⟩
        · skip
          skip
          refine WL.op (by decide) (R.move rfl) ?_
          refine WL.gop (by decide) rfl rfl rfl (R.move rfl) ?_
          refine WL.geff rfl rfl rfl (OP.call (by decide) Tryd.func40 (by kernel_rfl) (by kernel_rfl) rfl (right_any _ _ (by have := splitL_label hx; omega)) ?_)
          rintro ed _ ⟨rfl, rfl⟩
          cases hr : rightL x
          · skip
            refine ⟨_, rfl, ?_⟩
            refine WL.op (by decide) (R.pickT rfl rfl) ?_
            refine WL.op (by decide) (R.assign rfl) ?_
            refine WL.nil ?_
            refine EW.inNormal ?_
            refine EW.next ?_
            refine CW.region ?_
            refine WL.op (by decide) (R.add rfl rfl (by omega)) ?_
            refine WL.op (by decide) (R.move rfl) ?_
            refine WL.nil ?_
            exact EW.roundK [3, 16, 17, 18] (k - 1) (by omega) ⟨rfl, j + 1, _, false, by omega, by omega, by rw [all_snoc hx, ← hb]; simp [hr], rfl⟩
          · skip
            refine ⟨_, rfl, ?_⟩
            refine WL.op (by decide) (R.pickT rfl rfl) ?_
            refine WL.op (by decide) (R.assign rfl) ?_
            refine WL.nil ?_
            refine EW.inNormal ?_
            refine EW.next ?_
            refine CW.region ?_
            refine WL.op (by decide) (R.add rfl rfl (by omega)) ?_
            refine WL.op (by decide) (R.move rfl) ?_
            refine WL.nil ?_
            exact EW.roundK [3, 16, 17, 18] (k - 1) (by omega) ⟨rfl, j + 1, _, true, by omega, by omega, by rw [all_snoc hx, ← hb]; simp [hr], rfl⟩
      · skip
        refine WL.next ?_
        refine CW.seq ?_
        refine CW.condF rfl ?_
        refine CW.exit ?_
        have hfin : b = namesL s := by rw [hb, hb1, List.take_of_length_le (by omega)]; exact (names_order s).symm
        refine EW.thenExit ?_
        refine EW.thenExit ?_
        refine EW.inHere ?_
        refine EW.next ?_
        refine CW.rseq ?_
        refine WL.op (by decide) (R.move rfl) ?_
        refine WL.op (by decide) (R.assign rfl) ?_
        refine WL.next ?_
        refine CW.ret ?_
        exact EW.ret1 (.inl rfl) rfl rfl ⟨congrArg (fun b => Ending.returned (.bool b)) hfin, hC⟩
theorem msgRight_any (r : Rec) (m : Msg) (A : Option Addr) (la ca : Nat) (B : Option Addr) (lb cb : Nat) (w0 : World) (hA16 : r.addr.length = 16) (hMa : m.ans = []) (hMu : m.auth = []) (hn1 : r.name.length ≤ 140737488351232) (hn2 : r.text.length ≤ 140737488351232) (hn3 : r.data.length ≤ 140737488351232) (hn4 : m.qname.length ≤ 140737488351232) (hla : la ≤ 140737488351232) (hlb : lb ≤ 140737488351232) (hG : Glob w0) :
    Calls Tryd.prog 16 #[r.val, .agg (m.cells (.slice A la ca) (.slice B lb cb)).toArray] w0 fun e w' => e = .returned (.bool true) ∧ Chg (fun _ => False) w0 w' := by
  have hC := Chg.refl (fun _ => False) w0
  have hz16 : zero16.length = 16 := rfl
  refine calls_cw (args := [r.val, .agg (m.cells (.slice A la ca) (.slice B lb cb)).toArray]) Tryd.func16 rfl rfl ?_
  show CW _ _ _ 219 [(0, r.val), (1, .agg (m.cells (.slice A la ca) (.slice B lb cb)).toArray)] w0
  refine CW.rseq ?_
  refine WL.eff rfl (OP.box (by decide) rfl ?_)
  intro w1 hc_w1 hs_w1 hB2
  obtain ⟨b2, he_b2⟩ : ∃ b, b = w0.heap.size := ⟨_, rfl⟩
  rw [← he_b2] at hB2 ⊢
  have hB2 : BR w1 b2 _ := hB2
  have hC := hC.trans hc_w1
  have hz_w1 := hc_w1.size
  refine WL.eff rfl (OP.box (by decide) rfl ?_)
  intro w2 hc_w2 hs_w2 hB3
  obtain ⟨b3, he_b3⟩ : ∃ b, b = w1.heap.size := ⟨_, rfl⟩
  rw [← he_b3] at hB3 ⊢
  have hB3 : BM w2 b3 _ _ _ := hB3
  have hB2 := hc_w2.at hB2 (fun e => e)
  have hC := hC.trans hc_w2
  have hz_w2 := hc_w2.size
  refine WL.op (by decide) (R.assign rfl) ?_
  refine WL.next ?_
  refine CW.seq ?_
  refine CW.rseq ?_
  refine WL.eff rfl (OP.call (by decide) Tryd.func29 (by kernel_rfl) (by kernel_rfl) rfl (fit04_any _ (hG.keep0 hC)) ?_)
  rintro ed w3 ⟨rfl, hc_w3⟩
  refine ⟨_, rfl, ?_⟩
  have hB2 := hc_w3.at hB2 (fun e => e)
  have hB3 := hc_w3.at hB3 (fun e => e)
  have hC := hC.trans hc_w3
  have hz_w3 := hc_w3.size
  refine WL.op (by decide) (R.not rfl) ?_
  refine WL.next ?_
  refine CW.condF rfl ?_
  refine CW.skip ?_
  refine EW.next ?_
  refine CW.seq ?_
  refine CW.rseq ?_
  refine WL.op (by decide) (FA57_0 rfl) ?_
  refine WL.op (by decide) (R.load Tryd.underlying9 rfl rfl (cell_at hB2 rfl)) ?_
  refine WL.op (by decide) (R.lenS rfl rfl) ?_
  refine WL.op (by decide) (FA57_4 rfl) ?_
  refine WL.op (by decide) (R.load Tryd.underlying9 rfl rfl (cell_at hB2 (Rec.at19 (by assumption)))) ?_
  refine WL.op (by decide) (R.lenS rfl rfl) ?_
  refine WL.op (by decide) (R.add rfl rfl (by omega)) ?_
  refine WL.op (by decide) (FA57_5 rfl) ?_
  refine WL.op (by decide) (R.load Tryd.underlying9 rfl rfl (cell_at hB2 (Rec.at20 (by assumption)))) ?_
  refine WL.op (by decide) (R.lenS rfl rfl) ?_
  refine WL.op (by decide) (R.add rfl rfl (by omega)) ?_
  refine WL.op (by decide) (FA33_5 rfl) ?_
  refine WL.op (by decide) (FA25_0 rfl) ?_
  refine WL.op (by decide) (R.load Tryd.underlying9 rfl rfl (cell_at hB3 rfl)) ?_
  refine WL.op (by decide) (R.lenS rfl rfl) ?_
  refine WL.op (by decide) (R.add rfl rfl (by omega)) ?_
  refine WL.gtrS (by decide) rfl rfl (fun h1 => ?_) (fun h1 => ?_)
  · skip
    refine WL.op (by decide) (R.move rfl) ?_
    refine WL.pass (by decide) rfl rfl rfl ?_
    refine WL.pass (by decide) rfl rfl rfl ?_
    refine WL.pass (by decide) rfl rfl rfl ?_
    refine WL.pass (by decide) rfl rfl rfl ?_
    refine WL.pass (by decide) rfl rfl rfl ?_
    refine WL.pass (by decide) rfl rfl rfl ?_
    refine WL.pass (by decide) rfl rfl rfl ?_
    refine WL.pass (by decide) rfl rfl rfl ?_
    refine WL.op (by decide) (R.pickT rfl rfl) ?_
    refine WL.next ?_
    refine CW.condT rfl ?_
    refine CW.rseq ?_
    refine WL.op (by decide) (R.assign rfl) ?_
    refine WL.next ?_
    refine CW.ret ?_
    refine EW.thenRet ?_
    exact EW.ret1 (.inl rfl) rfl rfl ⟨rfl, hC⟩
  · skip
    refine WL.op (by decide) (R.move rfl) ?_
    refine WL.gop (by decide) rfl rfl rfl (FA33_6 rfl) ?_
    refine WL.gop (by decide) rfl rfl rfl (R.load Tryd.underlying31 rfl rfl (cell_at hB3 rfl)) ?_
    refine WL.gop (by decide) rfl rfl rfl (R.lenSlice rfl Tryd.underlying31 rfl) ?_
    refine WL.gop (by decide) rfl rfl rfl (FA33_7 rfl) ?_
    refine WL.gop (by decide) rfl rfl rfl (R.load Tryd.underlying31 rfl rfl (cell_at hB3 rfl)) ?_
    refine WL.gop (by decide) rfl rfl rfl (R.lenSlice rfl Tryd.underlying31 rfl) ?_
    refine WL.gop (by decide) rfl rfl rfl (R.add rfl rfl (by omega)) ?_
    refine WL.gsplit _ (by decide) rfl rfl rfl (R.gtrD rfl rfl) (fun h2 => ?_) (fun h2 => ?_)
    · skip
      refine WL.op (by decide) (R.pickF rfl rfl) ?_
      refine WL.next ?_
      refine CW.condT rfl ?_
      refine CW.rseq ?_
      refine WL.op (by decide) (R.assign rfl) ?_
      refine WL.next ?_
      refine CW.ret ?_
      refine EW.thenRet ?_
      exact EW.ret1 (.inl rfl) rfl rfl ⟨rfl, hC⟩
    · skip
      refine WL.op (by decide) (R.pickF rfl rfl) ?_
      refine WL.next ?_
      refine CW.condF rfl ?_
      refine CW.skip ?_
      refine EW.next ?_
      refine CW.rseq ?_
      obtain rfl : la = 0 := by omega
      obtain rfl : lb = 0 := by omega
      refine WL.op (by decide) (R.assign rfl) ?_
      refine WL.next ?_
      refine CW.rseq ?_
      obtain ⟨c10, h10⟩ : ∃ x, r.addr[10]? = some x := ⟨r.addr[10]'(by omega), List.getElem?_eq_getElem _⟩
      obtain ⟨c11, h11⟩ : ∃ x, r.addr[11]? = some x := ⟨r.addr[11]'(by omega), List.getElem?_eq_getElem _⟩
      refine WL.cut 11 (fun le w' => w3 = w' ∧ ∃ b6, b6 = (decide ((c10.toNat : Int) = 255) && decide ((c11.toNat : Int) = 255)) ∧ le = [(2, .pointer (some ⟨b2, 0, none⟩)), (3, .pointer (some ⟨b3, 0, none⟩)), (5, .func (.func 37) #[] #[]), (6, .bool b6)]) ?_ ?_
      ·
        refine WL.op (by decide) (FA57_3 rfl) ?_
        refine WL.op (by decide) (R.indexArr (i := 10) Tryd.underlying27 sz5 rfl rfl rfl (by decide)) ?_
        refine WL.op (by decide) (R.load (v := u8v c10) Tryd.underlying5 rfl rfl (cell_at hB2 (Rec.atAddr (by simp [h10])))) ?_
        refine WL.eqlS (by decide) rfl rfl (fun h3 => ?_) (fun h3 => ?_)
        · skip
          refine WL.op (by decide) (R.move rfl) ?_
          refine WL.gop (by decide) rfl rfl rfl (FA57_3 rfl) ?_
          refine WL.gop (by decide) rfl rfl rfl (R.indexArr (i := 11) Tryd.underlying27 sz5 rfl rfl rfl (by decide)) ?_
          refine WL.gop (by decide) rfl rfl rfl (R.load (v := u8v c11) Tryd.underlying5 rfl rfl (cell_at hB2 (Rec.atAddr (by simp [h11])))) ?_
          refine WL.gsplit _ (by decide) rfl rfl rfl (R.eqlD rfl rfl) (fun h4 => ?_) (fun h4 => ?_)
          · skip
            refine WL.op (by decide) (R.pickT rfl rfl) ?_
            refine WL.op (by decide) (R.assign rfl) ?_
            exact WL.cutEnd [2, 3, 5, 6] ⟨rfl, true, by simp [h3, h4], rfl⟩
          · skip
            refine WL.op (by decide) (R.pickT rfl rfl) ?_
            refine WL.op (by decide) (R.assign rfl) ?_
            exact WL.cutEnd [2, 3, 5, 6] ⟨rfl, false, by simp [h3, h4], rfl⟩
        · skip
          refine WL.op (by decide) (R.move rfl) ?_
          refine WL.pass (by decide) rfl rfl rfl ?_
          refine WL.pass (by decide) rfl rfl rfl ?_
          refine WL.pass (by decide) rfl rfl rfl ?_
          refine WL.pass (by decide) rfl rfl rfl ?_
          refine WL.op (by decide) (R.pickF rfl rfl) ?_
          refine WL.op (by decide) (R.assign rfl) ?_
          exact WL.cutEnd [2, 3, 5, 6] ⟨rfl, false, by simp [h3], rfl⟩
      · rintro le w' ⟨rfl, b6, hb6, rfl⟩
        refine WL.next ?_
        refine CW.seq ?_
        refine CW.rseq ?_
        refine WL.op (by decide) (FA57_3 rfl) ?_
        refine WL.op (by decide) (R.sliceArr (lv := none) (hv := some (.int .i64 10)) (l1 := 0) (h1 := 10) Tryd.underlying27 sz5 rfl rfl rfl (by kernel_rfl) (by decide)) ?_
        refine WL.op (by decide) (R.lenSlice rfl Tryd.underlying36 rfl) ?_
        refine WL.op (by decide) (R.move rfl) ?_
        refine WL.next ?_
        refine CW.block ?_
        refine CW.loopK [2, 3, 5, 6, 52, 53, 54] (fun k le wr => w3 = wr ∧ ∃ (j : Nat) (jj : Int) (b : Bool), j + k = 10 ∧ jj = (j : Int) ∧ b = vTo r.addr (decide ((c10.toNat : Int) = 255) && decide ((c11.toNat : Int) = 255)) j ∧ le = [(2, .pointer (some ⟨b2, 0, none⟩)), (3, .pointer (some ⟨b3, 0, none⟩)), (5, .func (.func 37) #[] #[]), (6, .bool b), (52, .slice (some ⟨b2, 3, none⟩) 10 16), (53, .int .i64 10), (54, .int .i64 jj)]) (10) ?_ ?_
        · exact ⟨rfl, 0, 0, b6, by omega, rfl, by rw [hb6]; simp [vTo], rfl⟩
        · rintro k le wr ⟨rfl, j, jj, b, hk, rfl, hb, rfl⟩
          refine CW.rseq ?_
          refine WL.lssS (by decide) rfl rfl (fun h5 => ?_) (fun h5 => ?_)
          · skip
            refine WL.next ?_
            refine CW.seq ?_
            refine CW.condT rfl ?_
            refine CW.skip ?_
            refine EW.next ?_
            refine CW.seq ?_
            refine CW.block ?_
            refine CW.rseq ?_
            obtain ⟨x, hx⟩ : ∃ x, r.addr[j]? = some x := ⟨r.addr[j]'(by omega), List.getElem?_eq_getElem _⟩
            refine WL.op (by decide) (R.indexAddr1 (i := j) Tryd.underlying36 sz5 rfl rfl rfl (by omega)) ?_
            refine WL.op (by decide) (R.load (v := u8v x) Tryd.underlying5 rfl rfl (cell_at hB2 (by rw [Nat.mul_one]; exact Rec.atAddr (by simp [hx])))) ?_
            refine WL.op (by decide) (R.assign rfl) ?_
            refine WL.next ?_
            refine CW.region ?_
            refine WL.op (by decide) (R.move rfl) ?_
            cases b
            · skip
              skip
              refine WL.op (by decide) (R.move rfl) ?_
              refine WL.pass (by decide) rfl rfl rfl ?_
              refine WL.pass (by decide) rfl rfl rfl ?_
              refine WL.op (by decide) (R.pickF rfl rfl) ?_
              refine WL.op (by decide) (R.assign rfl) ?_
              refine WL.nil ?_
              refine EW.inNormal ?_
              refine EW.next ?_
              refine CW.region ?_
              refine WL.op (by decide) (R.add rfl rfl (by omega)) ?_
              refine WL.op (by decide) (R.move rfl) ?_
              refine WL.nil ?_
              exact EW.roundK [2, 3, 5, 6, 52, 53, 54] (k - 1) (by omega) ⟨rfl, j + 1, _, false, by omega, by omega, by rw [vTo_succ hx, ← hb]; simp, rfl⟩
            · skip
              skip
              refine WL.op (by decide) (R.move rfl) ?_
              refine WL.gop (by decide) rfl rfl rfl (R.move rfl) ?_
              refine WL.gsplit _ (by decide) rfl rfl rfl (R.eqlD rfl rfl) (fun h6 => ?_) (fun h6 => ?_)
              · skip
                refine WL.op (by decide) (R.pickT rfl rfl) ?_
                refine WL.op (by decide) (R.assign rfl) ?_
                refine WL.nil ?_
                refine EW.inNormal ?_
                refine EW.next ?_
                refine CW.region ?_
                refine WL.op (by decide) (R.add rfl rfl (by omega)) ?_
                refine WL.op (by decide) (R.move rfl) ?_
                refine WL.nil ?_
                exact EW.roundK [2, 3, 5, 6, 52, 53, 54] (k - 1) (by omega) ⟨rfl, j + 1, _, true, by omega, by omega, by rw [vTo_succ hx, ← hb]; simp; omega, rfl⟩
              · skip
                refine WL.op (by decide) (R.pickT rfl rfl) ?_
                refine WL.op (by decide) (R.assign rfl) ?_
                refine WL.nil ?_
                refine EW.inNormal ?_
                refine EW.next ?_
                refine CW.region ?_
                refine WL.op (by decide) (R.add rfl rfl (by omega)) ?_
                refine WL.op (by decide) (R.move rfl) ?_
                refine WL.nil ?_
                exact EW.roundK [2, 3, 5, 6, 52, 53, 54] (k - 1) (by omega) ⟨rfl, j + 1, _, false, by omega, by omega, by rw [vTo_succ hx, ← hb]; simp; omega, rfl⟩
          · skip
            refine WL.next ?_
            refine CW.seq ?_
            refine CW.condF rfl ?_
            refine CW.exit ?_
            have hj10 : j = 10 := by omega
            refine EW.thenExit ?_
            refine EW.thenExit ?_
            refine EW.inHere ?_
            refine EW.next ?_
            refine CW.rseq ?_
            have hZ12 : Chg (fun _ => False) w3 w3 := Chg.refl _ _
            refine WL.cut 15 (fun le w' => Chg (fun _ => False) w3 w' ∧ ∃ b9, b9 = headR r ∧ le = [(2, .pointer (some ⟨b2, 0, none⟩)), (3, .pointer (some ⟨b3, 0, none⟩)), (5, .func (.func 37) #[] #[]), (6, .bool b), (9, .bool b9)]) ?_ ?_
            ·
              refine WL.op (by decide) (R.move rfl) ?_
              refine WL.op (by decide) (FA57_0 rfl) ?_
              refine WL.op (by decide) (R.load Tryd.underlying9 rfl rfl (cell_at hB2 rfl)) ?_
              refine WL.eff rfl (OP.callV (by decide) rfl Tryd.func37 (by kernel_rfl) (by kernel_rfl) rfl (goes_any _ _ (by omega)) ?_)
              rintro ed w4 ⟨rfl, hc_w4⟩
              have hB2 := hc_w4.at hB2 (fun e => e)
              have hB3 := hc_w4.at hB3 (fun e => e)
              have hC := hC.trans hc_w4
              have hZ12 := hZ12.trans hc_w4
              have hz_w4 := hc_w4.size
              cases hn : namesL r.name
              · skip
                refine ⟨_, rfl, ?_⟩
                refine WL.op (by decide) (R.move rfl) ?_
                refine WL.pass (by decide) rfl rfl rfl ?_
                refine WL.pass (by decide) rfl rfl rfl ?_
                refine WL.pass (by decide) rfl rfl rfl ?_
                refine WL.op (by decide) (R.pickF rfl rfl) ?_
                refine WL.op (by decide) (R.move rfl) ?_
                refine WL.pass (by decide) rfl rfl rfl ?_
                refine WL.pass (by decide) rfl rfl rfl ?_
                refine WL.pass (by decide) rfl rfl rfl ?_
                refine WL.op (by decide) (R.pickF rfl rfl) ?_
                refine WL.op (by decide) (R.assign rfl) ?_
                exact WL.cutEnd [2, 3, 5, 6, 9] ⟨hZ12, false, by unfold headR; simp [hn], rfl⟩
              · skip
                refine ⟨_, rfl, ?_⟩
                refine WL.op (by decide) (R.move rfl) ?_
                refine WL.gop (by decide) rfl rfl rfl (FA57_2 rfl) ?_
                refine WL.gop (by decide) rfl rfl rfl (R.load Tryd.underlying3 rfl rfl (cell_at hB2 rfl)) ?_
                refine WL.gsplit _ (by decide) rfl rfl rfl (R.geqD rfl rfl) (fun h7 => ?_) (fun h7 => ?_)
                · skip
                  refine WL.op (by decide) (R.pickT rfl rfl) ?_
                  refine WL.op (by decide) (R.move rfl) ?_
                  refine WL.gop (by decide) rfl rfl rfl (FA57_2 rfl) ?_
                  refine WL.gop (by decide) rfl rfl rfl (R.load Tryd.underlying3 rfl rfl (cell_at hB2 rfl)) ?_
                  refine WL.gsplit _ (by decide) rfl rfl rfl (R.leqD rfl rfl) (fun h8 => ?_) (fun h8 => ?_)
                  · skip
                    refine WL.op (by decide) (R.pickT rfl rfl) ?_
                    refine WL.op (by decide) (R.assign rfl) ?_
                    exact WL.cutEnd [2, 3, 5, 6, 9] ⟨hZ12, true, by unfold headR; simp [hn, h7, h8], rfl⟩
                  · skip
                    refine WL.op (by decide) (R.pickT rfl rfl) ?_
                    refine WL.op (by decide) (R.assign rfl) ?_
                    exact WL.cutEnd [2, 3, 5, 6, 9] ⟨hZ12, false, by unfold headR; simp [hn, h7, h8], rfl⟩
                · skip
                  refine WL.op (by decide) (R.pickT rfl rfl) ?_
                  refine WL.op (by decide) (R.move rfl) ?_
                  refine WL.pass (by decide) rfl rfl rfl ?_
                  refine WL.pass (by decide) rfl rfl rfl ?_
                  refine WL.pass (by decide) rfl rfl rfl ?_
                  refine WL.op (by decide) (R.pickF rfl rfl) ?_
                  refine WL.op (by decide) (R.assign rfl) ?_
                  exact WL.cutEnd [2, 3, 5, 6, 9] ⟨hZ12, false, by unfold headR; simp [hn, h7], rfl⟩
            · rintro le wz5 ⟨hc_wz5, b9, hb9, rfl⟩
              have hB2 := hc_wz5.at hB2 (fun e => e)
              have hB3 := hc_wz5.at hB3 (fun e => e)
              have hC := hC.trans hc_wz5
              have hZ12 := hZ12.trans hc_wz5
              have hz_wz5 := hc_wz5.size
              refine WL.next ?_
              refine CW.cut (fun le w' => Chg (fun _ => False) wz5 w' ∧ ∃ b9, b9 = rightR r ∧ le = [(2, .pointer (some ⟨b2, 0, none⟩)), (3, .pointer (some ⟨b3, 0, none⟩)), (5, .func (.func 37) #[] #[]), (9, .bool b9)]) ?_ ?_
              ·
                refine CW.rseq ?_
                have hv : b = decide (r.addr.take 12 = mappedL) := by rw [hb, hj10]; exact vTo_all hA16 h10 h11
                have hZ15 : Chg (fun _ => False) wz5 wz5 := Chg.refl _ _
                refine WL.op (by decide) (FA57_1 rfl) ?_
                refine WL.op (by decide) (R.load Tryd.underlying3 rfl rfl (cell_at hB2 rfl)) ?_
                refine WL.next ?_
                refine CW.block ?_
                refine CW.rseq ?_
                refine WL.eqlS (by decide) rfl rfl (fun h9 => ?_) (fun h9 => ?_)
                · skip
                  refine WL.op (by decide) (R.assign rfl) ?_
                  refine WL.next ?_
                  refine CW.condT rfl ?_
                  refine CW.region ?_
                  refine WL.op (by decide) (R.move rfl) ?_
                  cases b9
                  · skip
                    skip
                    refine WL.op (by decide) (R.move rfl) ?_
                    refine WL.pass (by decide) rfl rfl rfl ?_
                    refine WL.op (by decide) (R.pickF rfl rfl) ?_
                    refine WL.op (by decide) (R.move rfl) ?_
                    refine WL.pass (by decide) rfl rfl rfl ?_
                    refine WL.pass (by decide) rfl rfl rfl ?_
                    refine WL.pass (by decide) rfl rfl rfl ?_
                    refine WL.op (by decide) (R.pickF rfl rfl) ?_
                    refine WL.op (by decide) (R.move rfl) ?_
                    refine WL.pass (by decide) rfl rfl rfl ?_
                    refine WL.pass (by decide) rfl rfl rfl ?_
                    refine WL.pass (by decide) rfl rfl rfl ?_
                    refine WL.op (by decide) (R.pickF rfl rfl) ?_
                    refine WL.op (by decide) (R.assign rfl) ?_
                    refine WL.nil ?_
                    refine EW.inNormal ?_
                    exact EW.cutK [2, 3, 5, 9] ⟨hZ15, false, by rw [right1 (by omega), ← hb9, ← hv]; simp, rfl⟩
                  · skip
                    skip
                    refine WL.op (by decide) (R.move rfl) ?_
                    refine WL.gop (by decide) rfl rfl rfl (R.move rfl) ?_
                    cases b
                    · skip
                      skip
                      refine WL.op (by decide) (R.pickT rfl rfl) ?_
                      refine WL.op (by decide) (R.move rfl) ?_
                      refine WL.pass (by decide) rfl rfl rfl ?_
                      refine WL.pass (by decide) rfl rfl rfl ?_
                      refine WL.pass (by decide) rfl rfl rfl ?_
                      refine WL.op (by decide) (R.pickF rfl rfl) ?_
                      refine WL.op (by decide) (R.move rfl) ?_
                      refine WL.pass (by decide) rfl rfl rfl ?_
                      refine WL.pass (by decide) rfl rfl rfl ?_
                      refine WL.pass (by decide) rfl rfl rfl ?_
                      refine WL.op (by decide) (R.pickF rfl rfl) ?_
                      refine WL.op (by decide) (R.assign rfl) ?_
                      refine WL.nil ?_
                      refine EW.inNormal ?_
                      exact EW.cutK [2, 3, 5, 9] ⟨hZ15, false, by rw [right1 (by omega), ← hb9, ← hv]; simp, rfl⟩
                    · skip
                      skip
                      refine WL.op (by decide) (R.pickT rfl rfl) ?_
                      refine WL.op (by decide) (R.move rfl) ?_
                      refine WL.gop (by decide) rfl rfl rfl (FA57_4 rfl) ?_
                      refine WL.gop (by decide) rfl rfl rfl (R.load Tryd.underlying9 rfl rfl (cell_at hB2 (Rec.at19 (by assumption)))) ?_
                      refine WL.gsplit _ (by decide) rfl rfl rfl (R.eqlStr (a := r.text) (b := []) rfl rfl) (fun h10 => ?_) (fun h10 => ?_)
                      · skip
                        refine WL.op (by decide) (R.pickT rfl rfl) ?_
                        refine WL.op (by decide) (R.move rfl) ?_
                        refine WL.gop (by decide) rfl rfl rfl (FA57_5 rfl) ?_
                        refine WL.gop (by decide) rfl rfl rfl (R.load Tryd.underlying9 rfl rfl (cell_at hB2 (Rec.at20 (by assumption)))) ?_
                        refine WL.gsplit _ (by decide) rfl rfl rfl (R.eqlStr (a := r.data) (b := []) rfl rfl) (fun h11 => ?_) (fun h11 => ?_)
                        · skip
                          refine WL.op (by decide) (R.pickT rfl rfl) ?_
                          refine WL.op (by decide) (R.assign rfl) ?_
                          refine WL.nil ?_
                          refine EW.inNormal ?_
                          exact EW.cutK [2, 3, 5, 9] ⟨hZ15, true, by rw [right1 (by omega), ← hb9, ← hv]; simp [h10, h11], rfl⟩
                        · skip
                          refine WL.op (by decide) (R.pickT rfl rfl) ?_
                          refine WL.op (by decide) (R.assign rfl) ?_
                          refine WL.nil ?_
                          refine EW.inNormal ?_
                          exact EW.cutK [2, 3, 5, 9] ⟨hZ15, false, by rw [right1 (by omega), ← hb9, ← hv]; simp [h10, h11], rfl⟩
                      · skip
                        refine WL.op (by decide) (R.pickT rfl rfl) ?_
                        refine WL.op (by decide) (R.move rfl) ?_
                        refine WL.pass (by decide) rfl rfl rfl ?_
                        refine WL.pass (by decide) rfl rfl rfl ?_
                        refine WL.pass (by decide) rfl rfl rfl ?_
                        refine WL.op (by decide) (R.pickF rfl rfl) ?_
                        refine WL.op (by decide) (R.assign rfl) ?_
                        refine WL.nil ?_
                        refine EW.inNormal ?_
                        exact EW.cutK [2, 3, 5, 9] ⟨hZ15, false, by rw [right1 (by omega), ← hb9, ← hv]; simp [h10], rfl⟩
                · skip
                  refine WL.op (by decide) (R.assign rfl) ?_
                  refine WL.next ?_
                  refine CW.condF rfl ?_
                  refine CW.rseq ?_
                  refine WL.eqlS (by decide) rfl rfl (fun h12 => ?_) (fun h12 => ?_)
                  · skip
                    refine WL.op (by decide) (R.assign rfl) ?_
                    refine WL.next ?_
                    refine CW.condT rfl ?_
                    refine CW.region ?_
                    refine WL.op (by decide) (R.move rfl) ?_
                    cases b9
                    · skip
                      skip
                      refine WL.op (by decide) (R.move rfl) ?_
                      refine WL.pass (by decide) rfl rfl rfl ?_
                      refine WL.pass (by decide) rfl rfl rfl ?_
                      refine WL.pass (by decide) rfl rfl rfl ?_
                      refine WL.op (by decide) (R.pickF rfl rfl) ?_
                      refine WL.op (by decide) (R.move rfl) ?_
                      refine WL.pass (by decide) rfl rfl rfl ?_
                      refine WL.pass (by decide) rfl rfl rfl ?_
                      refine WL.pass (by decide) rfl rfl rfl ?_
                      refine WL.op (by decide) (R.pickF rfl rfl) ?_
                      refine WL.op (by decide) (R.assign rfl) ?_
                      refine WL.nil ?_
                      refine EW.inNormal ?_
                      exact EW.cutK [2, 3, 5, 9] ⟨hZ15, false, by rw [right28 (by omega), ← hb9]; simp, rfl⟩
                    · skip
                      skip
                      refine WL.op (by decide) (R.move rfl) ?_
                      refine WL.gop (by decide) rfl rfl rfl (FA57_4 rfl) ?_
                      refine WL.gop (by decide) rfl rfl rfl (R.load Tryd.underlying9 rfl rfl (cell_at hB2 (Rec.at19 (by assumption)))) ?_
                      refine WL.gsplit _ (by decide) rfl rfl rfl (R.eqlStr (a := r.text) (b := []) rfl rfl) (fun h13 => ?_) (fun h13 => ?_)
                      · skip
                        refine WL.op (by decide) (R.pickT rfl rfl) ?_
                        refine WL.op (by decide) (R.move rfl) ?_
                        refine WL.gop (by decide) rfl rfl rfl (FA57_5 rfl) ?_
                        refine WL.gop (by decide) rfl rfl rfl (R.load Tryd.underlying9 rfl rfl (cell_at hB2 (Rec.at20 (by assumption)))) ?_
                        refine WL.gsplit _ (by decide) rfl rfl rfl (R.eqlStr (a := r.data) (b := []) rfl rfl) (fun h14 => ?_) (fun h14 => ?_)
                        · skip
                          refine WL.op (by decide) (R.pickT rfl rfl) ?_
                          refine WL.op (by decide) (R.assign rfl) ?_
                          refine WL.nil ?_
                          refine EW.inNormal ?_
                          exact EW.cutK [2, 3, 5, 9] ⟨hZ15, true, by rw [right28 (by omega), ← hb9]; simp [h13, h14], rfl⟩
                        · skip
                          refine WL.op (by decide) (R.pickT rfl rfl) ?_
                          refine WL.op (by decide) (R.assign rfl) ?_
                          refine WL.nil ?_
                          refine EW.inNormal ?_
                          exact EW.cutK [2, 3, 5, 9] ⟨hZ15, false, by rw [right28 (by omega), ← hb9]; simp [h13, h14], rfl⟩
                      · skip
                        refine WL.op (by decide) (R.pickT rfl rfl) ?_
                        refine WL.op (by decide) (R.move rfl) ?_
                        refine WL.pass (by decide) rfl rfl rfl ?_
                        refine WL.pass (by decide) rfl rfl rfl ?_
                        refine WL.pass (by decide) rfl rfl rfl ?_
                        refine WL.op (by decide) (R.pickF rfl rfl) ?_
                        refine WL.op (by decide) (R.assign rfl) ?_
                        refine WL.nil ?_
                        refine EW.inNormal ?_
                        exact EW.cutK [2, 3, 5, 9] ⟨hZ15, false, by rw [right28 (by omega), ← hb9]; simp [h13], rfl⟩
                  · skip
                    refine WL.op (by decide) (R.assign rfl) ?_
                    refine WL.next ?_
                    refine CW.condF rfl ?_
                    refine CW.seq ?_
                    refine CW.rseq ?_
                    refine WL.eqlS (by decide) rfl rfl (fun h15 => ?_) (fun h15 => ?_)
                    · skip
                      refine WL.op (by decide) (R.assign rfl) ?_
                      refine WL.next ?_
                      refine CW.condT rfl ?_
                      refine CW.skip ?_
                      refine EW.next ?_
                      refine CW.condT rfl ?_
                      refine CW.region ?_
                      refine WL.op (by decide) (R.move rfl) ?_
                      cases b9
                      · skip
                        skip
                        refine WL.op (by decide) (R.move rfl) ?_
                        refine WL.pass (by decide) rfl rfl rfl ?_
                        refine WL.pass (by decide) rfl rfl rfl ?_
                        refine WL.pass (by decide) rfl rfl rfl ?_
                        refine WL.op (by decide) (R.pickF rfl rfl) ?_
                        refine WL.op (by decide) (R.move rfl) ?_
                        refine WL.pass (by decide) rfl rfl rfl ?_
                        refine WL.pass (by decide) rfl rfl rfl ?_
                        refine WL.pass (by decide) rfl rfl rfl ?_
                        refine WL.pass (by decide) rfl rfl rfl ?_
                        refine WL.op (by decide) (R.pickF rfl rfl) ?_
                        refine WL.op (by decide) (R.move rfl) ?_
                        refine WL.pass (by decide) rfl rfl rfl ?_
                        refine WL.pass (by decide) rfl rfl rfl ?_
                        refine WL.pass (by decide) rfl rfl rfl ?_
                        refine WL.pass (by decide) rfl rfl rfl ?_
                        refine WL.op (by decide) (R.pickF rfl rfl) ?_
                        refine WL.op (by decide) (R.assign rfl) ?_
                        refine WL.nil ?_
                        refine EW.inNormal ?_
                        exact EW.cutK [2, 3, 5, 9] ⟨hZ15, false, by rw [right2 (by omega), ← hb9]; simp, rfl⟩
                      · skip
                        skip
                        refine WL.op (by decide) (R.move rfl) ?_
                        refine WL.gop (by decide) rfl rfl rfl (FA57_5 rfl) ?_
                        refine WL.gop (by decide) rfl rfl rfl (R.load Tryd.underlying9 rfl rfl (cell_at hB2 (Rec.at20 (by assumption)))) ?_
                        refine WL.gsplit _ (by decide) rfl rfl rfl (R.eqlStr (a := r.data) (b := []) rfl rfl) (fun h16 => ?_) (fun h16 => ?_)
                        · skip
                          refine WL.op (by decide) (R.pickT rfl rfl) ?_
                          refine WL.op (by decide) (R.move rfl) ?_
                          refine WL.gop (by decide) rfl rfl rfl (FA57_3 rfl) ?_
                          refine WL.gop (by decide) rfl rfl rfl (R.loadRA (k := 0) hA16 rfl (fun i u hi => cell_at hB2 (by rw [Nat.zero_add, List.getElem?_toArray]; exact hi))) ?_
                          refine WL.gop (by decide) rfl rfl rfl (R.build27) ?_
                          refine WL.gsplit _ (by decide) rfl rfl rfl (R.eql27D hA16 hz16 rfl rfl) (fun h17 => ?_) (fun h17 => ?_)
                          · skip
                            refine WL.op (by decide) (R.pickT rfl rfl) ?_
                            refine WL.op (by decide) (R.move rfl) ?_
                            refine WL.gop (by decide) rfl rfl rfl (R.move rfl) ?_
                            refine WL.gop (by decide) rfl rfl rfl (FA57_4 rfl) ?_
                            refine WL.gop (by decide) rfl rfl rfl (R.load Tryd.underlying9 rfl rfl (cell_at hB2 (Rec.at19 (by assumption)))) ?_
                            refine WL.geff rfl rfl rfl (OP.callV (by decide) rfl Tryd.func37 (by kernel_rfl) (by kernel_rfl) rfl (goes_any _ _ (by omega)) ?_)
                            rintro ed w6 ⟨rfl, hc_w6⟩
                            have hB2 := hc_w6.at hB2 (fun e => e)
                            have hB3 := hc_w6.at hB3 (fun e => e)
                            have hC := hC.trans hc_w6
                            have hZ12 := hZ12.trans hc_w6
                            have hZ15 := hZ15.trans hc_w6
                            have hz_w6 := hc_w6.size
                            cases hnt : namesL r.text
                            · skip
                              refine ⟨_, rfl, ?_⟩
                              refine WL.op (by decide) (R.pickT rfl rfl) ?_
                              refine WL.op (by decide) (R.assign rfl) ?_
                              refine WL.nil ?_
                              refine EW.inNormal ?_
                              exact EW.cutK [2, 3, 5, 9] ⟨hZ15, false, by rw [right2 (by omega), ← hb9]; simp [h16, h17, hnt], rfl⟩
                            · skip
                              refine ⟨_, rfl, ?_⟩
                              refine WL.op (by decide) (R.pickT rfl rfl) ?_
                              refine WL.op (by decide) (R.assign rfl) ?_
                              refine WL.nil ?_
                              refine EW.inNormal ?_
                              exact EW.cutK [2, 3, 5, 9] ⟨hZ15, true, by rw [right2 (by omega), ← hb9]; simp [h16, h17, hnt], rfl⟩
                          · skip
                            refine WL.op (by decide) (R.pickT rfl rfl) ?_
                            refine WL.op (by decide) (R.move rfl) ?_
                            refine WL.pass (by decide) rfl rfl rfl ?_
                            refine WL.pass (by decide) rfl rfl rfl ?_
                            refine WL.pass (by decide) rfl rfl rfl ?_
                            refine WL.pass (by decide) rfl rfl rfl ?_
                            refine WL.op (by decide) (R.pickF rfl rfl) ?_
                            refine WL.op (by decide) (R.assign rfl) ?_
                            refine WL.nil ?_
                            refine EW.inNormal ?_
                            exact EW.cutK [2, 3, 5, 9] ⟨hZ15, false, by rw [right2 (by omega), ← hb9]; simp [h16, h17], rfl⟩
                        · skip
                          refine WL.op (by decide) (R.pickT rfl rfl) ?_
                          refine WL.op (by decide) (R.move rfl) ?_
                          refine WL.pass (by decide) rfl rfl rfl ?_
                          refine WL.pass (by decide) rfl rfl rfl ?_
                          refine WL.pass (by decide) rfl rfl rfl ?_
                          refine WL.pass (by decide) rfl rfl rfl ?_
                          refine WL.op (by decide) (R.pickF rfl rfl) ?_
                          refine WL.op (by decide) (R.move rfl) ?_
                          refine WL.pass (by decide) rfl rfl rfl ?_
                          refine WL.pass (by decide) rfl rfl rfl ?_
                          refine WL.pass (by decide) rfl rfl rfl ?_
                          refine WL.pass (by decide) rfl rfl rfl ?_
                          refine WL.op (by decide) (R.pickF rfl rfl) ?_
                          refine WL.op (by decide) (R.assign rfl) ?_
                          refine WL.nil ?_
                          refine EW.inNormal ?_
                          exact EW.cutK [2, 3, 5, 9] ⟨hZ15, false, by rw [right2 (by omega), ← hb9]; simp [h16], rfl⟩
                    · skip
                      refine WL.op (by decide) (R.assign rfl) ?_
                      refine WL.next ?_
                      refine CW.condF rfl ?_
                      refine CW.rseq ?_
                      refine WL.eqlS (by decide) rfl rfl (fun h18 => ?_) (fun h18 => ?_)
                      · skip
                        refine WL.op (by decide) (R.assign rfl) ?_
                        refine WL.next ?_
                        refine CW.condT rfl ?_
                        refine CW.skip ?_
                        refine EW.next ?_
                        refine CW.condT rfl ?_
                        refine CW.region ?_
                        refine WL.op (by decide) (R.move rfl) ?_
                        cases b9
                        · skip
                          skip
                          refine WL.op (by decide) (R.move rfl) ?_
                          refine WL.pass (by decide) rfl rfl rfl ?_
                          refine WL.pass (by decide) rfl rfl rfl ?_
                          refine WL.pass (by decide) rfl rfl rfl ?_
                          refine WL.op (by decide) (R.pickF rfl rfl) ?_
                          refine WL.op (by decide) (R.move rfl) ?_
                          refine WL.pass (by decide) rfl rfl rfl ?_
                          refine WL.pass (by decide) rfl rfl rfl ?_
                          refine WL.pass (by decide) rfl rfl rfl ?_
                          refine WL.pass (by decide) rfl rfl rfl ?_
                          refine WL.op (by decide) (R.pickF rfl rfl) ?_
                          refine WL.op (by decide) (R.move rfl) ?_
                          refine WL.pass (by decide) rfl rfl rfl ?_
                          refine WL.pass (by decide) rfl rfl rfl ?_
                          refine WL.pass (by decide) rfl rfl rfl ?_
                          refine WL.pass (by decide) rfl rfl rfl ?_
                          refine WL.op (by decide) (R.pickF rfl rfl) ?_
                          refine WL.op (by decide) (R.assign rfl) ?_
                          refine WL.nil ?_
                          refine EW.inNormal ?_
                          exact EW.cutK [2, 3, 5, 9] ⟨hZ15, false, by rw [right2 (by omega), ← hb9]; simp, rfl⟩
                        · skip
                          skip
                          refine WL.op (by decide) (R.move rfl) ?_
                          refine WL.gop (by decide) rfl rfl rfl (FA57_5 rfl) ?_
                          refine WL.gop (by decide) rfl rfl rfl (R.load Tryd.underlying9 rfl rfl (cell_at hB2 (Rec.at20 (by assumption)))) ?_
                          refine WL.gsplit _ (by decide) rfl rfl rfl (R.eqlStr (a := r.data) (b := []) rfl rfl) (fun h19 => ?_) (fun h19 => ?_)
                          · skip
                            refine WL.op (by decide) (R.pickT rfl rfl) ?_
                            refine WL.op (by decide) (R.move rfl) ?_
                            refine WL.gop (by decide) rfl rfl rfl (FA57_3 rfl) ?_
                            refine WL.gop (by decide) rfl rfl rfl (R.loadRA (k := 0) hA16 rfl (fun i u hi => cell_at hB2 (by rw [Nat.zero_add, List.getElem?_toArray]; exact hi))) ?_
                            refine WL.gop (by decide) rfl rfl rfl (R.build27) ?_
                            refine WL.gsplit _ (by decide) rfl rfl rfl (R.eql27D hA16 hz16 rfl rfl) (fun h20 => ?_) (fun h20 => ?_)
                            · skip
                              refine WL.op (by decide) (R.pickT rfl rfl) ?_
                              refine WL.op (by decide) (R.move rfl) ?_
                              refine WL.gop (by decide) rfl rfl rfl (R.move rfl) ?_
                              refine WL.gop (by decide) rfl rfl rfl (FA57_4 rfl) ?_
                              refine WL.gop (by decide) rfl rfl rfl (R.load Tryd.underlying9 rfl rfl (cell_at hB2 (Rec.at19 (by assumption)))) ?_
                              refine WL.geff rfl rfl rfl (OP.callV (by decide) rfl Tryd.func37 (by kernel_rfl) (by kernel_rfl) rfl (goes_any _ _ (by omega)) ?_)
                              rintro ed w7 ⟨rfl, hc_w7⟩
                              have hB2 := hc_w7.at hB2 (fun e => e)
                              have hB3 := hc_w7.at hB3 (fun e => e)
                              have hC := hC.trans hc_w7
                              have hZ12 := hZ12.trans hc_w7
                              have hZ15 := hZ15.trans hc_w7
                              have hz_w7 := hc_w7.size
                              cases hnt : namesL r.text
                              · skip
                                refine ⟨_, rfl, ?_⟩
                                refine WL.op (by decide) (R.pickT rfl rfl) ?_
                                refine WL.op (by decide) (R.assign rfl) ?_
                                refine WL.nil ?_
                                refine EW.inNormal ?_
                                exact EW.cutK [2, 3, 5, 9] ⟨hZ15, false, by rw [right2 (by omega), ← hb9]; simp [h19, h20, hnt], rfl⟩
                              · skip
                                refine ⟨_, rfl, ?_⟩
                                refine WL.op (by decide) (R.pickT rfl rfl) ?_
                                refine WL.op (by decide) (R.assign rfl) ?_
                                refine WL.nil ?_
                                refine EW.inNormal ?_
                                exact EW.cutK [2, 3, 5, 9] ⟨hZ15, true, by rw [right2 (by omega), ← hb9]; simp [h19, h20, hnt], rfl⟩
                            · skip
                              refine WL.op (by decide) (R.pickT rfl rfl) ?_
                              refine WL.op (by decide) (R.move rfl) ?_
                              refine WL.pass (by decide) rfl rfl rfl ?_
                              refine WL.pass (by decide) rfl rfl rfl ?_
                              refine WL.pass (by decide) rfl rfl rfl ?_
                              refine WL.pass (by decide) rfl rfl rfl ?_
                              refine WL.op (by decide) (R.pickF rfl rfl) ?_
                              refine WL.op (by decide) (R.assign rfl) ?_
                              refine WL.nil ?_
                              refine EW.inNormal ?_
                              exact EW.cutK [2, 3, 5, 9] ⟨hZ15, false, by rw [right2 (by omega), ← hb9]; simp [h19, h20], rfl⟩
                          · skip
                            refine WL.op (by decide) (R.pickT rfl rfl) ?_
                            refine WL.op (by decide) (R.move rfl) ?_
                            refine WL.pass (by decide) rfl rfl rfl ?_
                            refine WL.pass (by decide) rfl rfl rfl ?_
                            refine WL.pass (by decide) rfl rfl rfl ?_
                            refine WL.pass (by decide) rfl rfl rfl ?_
                            refine WL.op (by decide) (R.pickF rfl rfl) ?_
                            refine WL.op (by decide) (R.move rfl) ?_
                            refine WL.pass (by decide) rfl rfl rfl ?_
                            refine WL.pass (by decide) rfl rfl rfl ?_
                            refine WL.pass (by decide) rfl rfl rfl ?_
                            refine WL.pass (by decide) rfl rfl rfl ?_
                            refine WL.op (by decide) (R.pickF rfl rfl) ?_
                            refine WL.op (by decide) (R.assign rfl) ?_
                            refine WL.nil ?_
                            refine EW.inNormal ?_
                            exact EW.cutK [2, 3, 5, 9] ⟨hZ15, false, by rw [right2 (by omega), ← hb9]; simp [h19], rfl⟩
                      · skip
                        refine WL.op (by decide) (R.assign rfl) ?_
                        refine WL.next ?_
                        refine CW.condF rfl ?_
                        refine CW.region ?_
                        refine WL.eqlS (by decide) rfl rfl (fun h21 => ?_) (fun h21 => ?_)
                        · skip
                          refine WL.op (by decide) (R.assign rfl) ?_
                          refine WL.nil ?_
                          refine EW.next ?_
                          refine CW.condT rfl ?_
                          refine CW.region ?_
                          refine WL.op (by decide) (R.move rfl) ?_
                          cases b9
                          · skip
                            skip
                            refine WL.op (by decide) (R.move rfl) ?_
                            refine WL.pass (by decide) rfl rfl rfl ?_
                            refine WL.pass (by decide) rfl rfl rfl ?_
                            refine WL.pass (by decide) rfl rfl rfl ?_
                            refine WL.op (by decide) (R.pickF rfl rfl) ?_
                            refine WL.op (by decide) (R.move rfl) ?_
                            refine WL.pass (by decide) rfl rfl rfl ?_
                            refine WL.pass (by decide) rfl rfl rfl ?_
                            refine WL.pass (by decide) rfl rfl rfl ?_
                            refine WL.pass (by decide) rfl rfl rfl ?_
                            refine WL.op (by decide) (R.pickF rfl rfl) ?_
                            refine WL.op (by decide) (R.move rfl) ?_
                            refine WL.pass (by decide) rfl rfl rfl ?_
                            refine WL.pass (by decide) rfl rfl rfl ?_
                            refine WL.pass (by decide) rfl rfl rfl ?_
                            refine WL.pass (by decide) rfl rfl rfl ?_
                            refine WL.op (by decide) (R.pickF rfl rfl) ?_
                            refine WL.op (by decide) (R.assign rfl) ?_
                            refine WL.nil ?_
                            refine EW.inNormal ?_
                            exact EW.cutK [2, 3, 5, 9] ⟨hZ15, false, by rw [right2 (by omega), ← hb9]; simp, rfl⟩
                          · skip
                            skip
                            refine WL.op (by decide) (R.move rfl) ?_
                            refine WL.gop (by decide) rfl rfl rfl (FA57_5 rfl) ?_
                            refine WL.gop (by decide) rfl rfl rfl (R.load Tryd.underlying9 rfl rfl (cell_at hB2 (Rec.at20 (by assumption)))) ?_
                            refine WL.gsplit _ (by decide) rfl rfl rfl (R.eqlStr (a := r.data) (b := []) rfl rfl) (fun h22 => ?_) (fun h22 => ?_)
                            · skip
                              refine WL.op (by decide) (R.pickT rfl rfl) ?_
                              refine WL.op (by decide) (R.move rfl) ?_
                              refine WL.gop (by decide) rfl rfl rfl (FA57_3 rfl) ?_
                              refine WL.gop (by decide) rfl rfl rfl (R.loadRA (k := 0) hA16 rfl (fun i u hi => cell_at hB2 (by rw [Nat.zero_add, List.getElem?_toArray]; exact hi))) ?_
                              refine WL.gop (by decide) rfl rfl rfl (R.build27) ?_
                              refine WL.gsplit _ (by decide) rfl rfl rfl (R.eql27D hA16 hz16 rfl rfl) (fun h23 => ?_) (fun h23 => ?_)
                              · skip
                                refine WL.op (by decide) (R.pickT rfl rfl) ?_
                                refine WL.op (by decide) (R.move rfl) ?_
                                refine WL.gop (by decide) rfl rfl rfl (R.move rfl) ?_
                                refine WL.gop (by decide) rfl rfl rfl (FA57_4 rfl) ?_
                                refine WL.gop (by decide) rfl rfl rfl (R.load Tryd.underlying9 rfl rfl (cell_at hB2 (Rec.at19 (by assumption)))) ?_
                                refine WL.geff rfl rfl rfl (OP.callV (by decide) rfl Tryd.func37 (by kernel_rfl) (by kernel_rfl) rfl (goes_any _ _ (by omega)) ?_)
                                rintro ed w8 ⟨rfl, hc_w8⟩
                                have hB2 := hc_w8.at hB2 (fun e => e)
                                have hB3 := hc_w8.at hB3 (fun e => e)
                                have hC := hC.trans hc_w8
                                have hZ12 := hZ12.trans hc_w8
                                have hZ15 := hZ15.trans hc_w8
                                have hz_w8 := hc_w8.size
                                cases hnt : namesL r.text
                                · skip
                                  refine ⟨_, rfl, ?_⟩
                                  refine WL.op (by decide) (R.pickT rfl rfl) ?_
                                  refine WL.op (by decide) (R.assign rfl) ?_
                                  refine WL.nil ?_
                                  refine EW.inNormal ?_
                                  exact EW.cutK [2, 3, 5, 9] ⟨hZ15, false, by rw [right2 (by omega), ← hb9]; simp [h22, h23, hnt], rfl⟩
                                · skip
                                  refine ⟨_, rfl, ?_⟩
                                  refine WL.op (by decide) (R.pickT rfl rfl) ?_
                                  refine WL.op (by decide) (R.assign rfl) ?_
                                  refine WL.nil ?_
                                  refine EW.inNormal ?_
                                  exact EW.cutK [2, 3, 5, 9] ⟨hZ15, true, by rw [right2 (by omega), ← hb9]; simp [h22, h23, hnt], rfl⟩
                              · skip
                                refine WL.op (by decide) (R.pickT rfl rfl) ?_
                                refine WL.op (by decide) (R.move rfl) ?_
                                refine WL.pass (by decide) rfl rfl rfl ?_
                                refine WL.pass (by decide) rfl rfl rfl ?_
                                refine WL.pass (by decide) rfl rfl rfl ?_
                                refine WL.pass (by decide) rfl rfl rfl ?_
                                refine WL.op (by decide) (R.pickF rfl rfl) ?_
                                refine WL.op (by decide) (R.assign rfl) ?_
                                refine WL.nil ?_
                                refine EW.inNormal ?_
                                exact EW.cutK [2, 3, 5, 9] ⟨hZ15, false, by rw [right2 (by omega), ← hb9]; simp [h22, h23], rfl⟩
                            · skip
                              refine WL.op (by decide) (R.pickT rfl rfl) ?_
                              refine WL.op (by decide) (R.move rfl) ?_
                              refine WL.pass (by decide) rfl rfl rfl ?_
                              refine WL.pass (by decide) rfl rfl rfl ?_
                              refine WL.pass (by decide) rfl rfl rfl ?_
                              refine WL.pass (by decide) rfl rfl rfl ?_
                              refine WL.op (by decide) (R.pickF rfl rfl) ?_
                              refine WL.op (by decide) (R.move rfl) ?_
                              refine WL.pass (by decide) rfl rfl rfl ?_
                              refine WL.pass (by decide) rfl rfl rfl ?_
                              refine WL.pass (by decide) rfl rfl rfl ?_
                              refine WL.pass (by decide) rfl rfl rfl ?_
                              refine WL.op (by decide) (R.pickF rfl rfl) ?_
                              refine WL.op (by decide) (R.assign rfl) ?_
                              refine WL.nil ?_
                              refine EW.inNormal ?_
                              exact EW.cutK [2, 3, 5, 9] ⟨hZ15, false, by rw [right2 (by omega), ← hb9]; simp [h22], rfl⟩
                        · skip
                          refine WL.op (by decide) (R.assign rfl) ?_
                          refine WL.nil ?_
                          refine EW.next ?_
                          refine CW.condF rfl ?_
                          refine CW.region ?_
                          refine WL.op (by decide) (R.move rfl) ?_
                          cases b9
                          · skip
                            skip
                            refine WL.op (by decide) (R.move rfl) ?_
                            refine WL.pass (by decide) rfl rfl rfl ?_
                            refine WL.pass (by decide) rfl rfl rfl ?_
                            refine WL.pass (by decide) rfl rfl rfl ?_
                            refine WL.op (by decide) (R.pickF rfl rfl) ?_
                            refine WL.op (by decide) (R.move rfl) ?_
                            refine WL.pass (by decide) rfl rfl rfl ?_
                            refine WL.pass (by decide) rfl rfl rfl ?_
                            refine WL.pass (by decide) rfl rfl rfl ?_
                            refine WL.op (by decide) (R.pickF rfl rfl) ?_
                            refine WL.op (by decide) (R.move rfl) ?_
                            refine WL.pass (by decide) rfl rfl rfl ?_
                            refine WL.pass (by decide) rfl rfl rfl ?_
                            refine WL.pass (by decide) rfl rfl rfl ?_
                            refine WL.op (by decide) (R.pickF rfl rfl) ?_
                            refine WL.op (by decide) (R.move rfl) ?_
                            refine WL.pass (by decide) rfl rfl rfl ?_
                            refine WL.pass (by decide) rfl rfl rfl ?_
                            refine WL.pass (by decide) rfl rfl rfl ?_
                            refine WL.pass (by decide) rfl rfl rfl ?_
                            refine WL.op (by decide) (R.pickF rfl rfl) ?_
                            refine WL.op (by decide) (R.move rfl) ?_
                            refine WL.pass (by decide) rfl rfl rfl ?_
                            refine WL.pass (by decide) rfl rfl rfl ?_
                            refine WL.pass (by decide) rfl rfl rfl ?_
                            refine WL.pass (by decide) rfl rfl rfl ?_
                            refine WL.op (by decide) (R.pickF rfl rfl) ?_
                            refine WL.op (by decide) (R.assign rfl) ?_
                            refine WL.nil ?_
                            refine EW.inNormal ?_
                            exact EW.cutK [2, 3, 5, 9] ⟨hZ15, false, by rw [rightO (by omega) (by omega) (by omega), ← hb9]; simp, rfl⟩
                          · skip
                            skip
                            refine WL.op (by decide) (R.move rfl) ?_
                            refine WL.gop (by decide) rfl rfl rfl (FA57_1 rfl) ?_
                            refine WL.gop (by decide) rfl rfl rfl (R.load Tryd.underlying3 rfl rfl (cell_at hB2 rfl)) ?_
                            refine WL.gsplit _ (by decide) rfl rfl rfl (R.gtrD rfl rfl) (fun h24 => ?_) (fun h24 => ?_)
                            · skip
                              refine WL.op (by decide) (R.pickT rfl rfl) ?_
                              refine WL.op (by decide) (R.move rfl) ?_
                              refine WL.gop (by decide) rfl rfl rfl (FA57_1 rfl) ?_
                              refine WL.gop (by decide) rfl rfl rfl (R.load Tryd.underlying3 rfl rfl (cell_at hB2 rfl)) ?_
                              refine WL.gsplit _ (by decide) rfl rfl rfl (R.leqD rfl rfl) (fun h25 => ?_) (fun h25 => ?_)
                              · skip
                                refine WL.op (by decide) (R.pickT rfl rfl) ?_
                                refine WL.op (by decide) (R.move rfl) ?_
                                refine WL.gop (by decide) rfl rfl rfl (FA57_4 rfl) ?_
                                refine WL.gop (by decide) rfl rfl rfl (R.load Tryd.underlying9 rfl rfl (cell_at hB2 (Rec.at19 (by assumption)))) ?_
                                refine WL.gsplit _ (by decide) rfl rfl rfl (R.eqlStr (a := r.text) (b := []) rfl rfl) (fun h26 => ?_) (fun h26 => ?_)
                                · skip
                                  refine WL.op (by decide) (R.pickT rfl rfl) ?_
                                  refine WL.op (by decide) (R.move rfl) ?_
                                  refine WL.gop (by decide) rfl rfl rfl (FA57_3 rfl) ?_
                                  refine WL.gop (by decide) rfl rfl rfl (R.loadRA (k := 0) hA16 rfl (fun i u hi => cell_at hB2 (by rw [Nat.zero_add, List.getElem?_toArray]; exact hi))) ?_
                                  refine WL.gop (by decide) rfl rfl rfl (R.build27) ?_
                                  refine WL.gsplit _ (by decide) rfl rfl rfl (R.eql27D hA16 hz16 rfl rfl) (fun h27 => ?_) (fun h27 => ?_)
                                  · skip
                                    refine WL.op (by decide) (R.pickT rfl rfl) ?_
                                    refine WL.op (by decide) (R.move rfl) ?_
                                    refine WL.gop (by decide) rfl rfl rfl (FA57_5 rfl) ?_
                                    refine WL.gop (by decide) rfl rfl rfl (R.load Tryd.underlying9 rfl rfl (cell_at hB2 (Rec.at20 (by assumption)))) ?_
                                    refine WL.gop (by decide) rfl rfl rfl (R.lenS rfl rfl) ?_
                                    refine WL.gsplit _ (by decide) rfl rfl rfl (R.leqD rfl rfl) (fun h28 => ?_) (fun h28 => ?_)
                                    · skip
                                      refine WL.op (by decide) (R.pickT rfl rfl) ?_
                                      refine WL.op (by decide) (R.assign rfl) ?_
                                      refine WL.nil ?_
                                      refine EW.inNormal ?_
                                      exact EW.cutK [2, 3, 5, 9] ⟨hZ15, true, by rw [rightO (by omega) (by omega) (by omega), ← hb9]; simp [h24, h25, h26, h27, h28], rfl⟩
                                    · skip
                                      refine WL.op (by decide) (R.pickT rfl rfl) ?_
                                      refine WL.op (by decide) (R.assign rfl) ?_
                                      refine WL.nil ?_
                                      refine EW.inNormal ?_
                                      exact EW.cutK [2, 3, 5, 9] ⟨hZ15, false, by rw [rightO (by omega) (by omega) (by omega), ← hb9]; simp [h24, h25, h26, h27, h28], rfl⟩
                                  · skip
                                    refine WL.op (by decide) (R.pickT rfl rfl) ?_
                                    refine WL.op (by decide) (R.move rfl) ?_
                                    refine WL.pass (by decide) rfl rfl rfl ?_
                                    refine WL.pass (by decide) rfl rfl rfl ?_
                                    refine WL.pass (by decide) rfl rfl rfl ?_
                                    refine WL.pass (by decide) rfl rfl rfl ?_
                                    refine WL.op (by decide) (R.pickF rfl rfl) ?_
                                    refine WL.op (by decide) (R.assign rfl) ?_
                                    refine WL.nil ?_
                                    refine EW.inNormal ?_
                                    exact EW.cutK [2, 3, 5, 9] ⟨hZ15, false, by rw [rightO (by omega) (by omega) (by omega), ← hb9]; simp [h24, h25, h26, h27], rfl⟩
                                · skip
                                  refine WL.op (by decide) (R.pickT rfl rfl) ?_
                                  refine WL.op (by decide) (R.move rfl) ?_
                                  refine WL.pass (by decide) rfl rfl rfl ?_
                                  refine WL.pass (by decide) rfl rfl rfl ?_
                                  refine WL.pass (by decide) rfl rfl rfl ?_
                                  refine WL.pass (by decide) rfl rfl rfl ?_
                                  refine WL.op (by decide) (R.pickF rfl rfl) ?_
                                  refine WL.op (by decide) (R.move rfl) ?_
                                  refine WL.pass (by decide) rfl rfl rfl ?_
                                  refine WL.pass (by decide) rfl rfl rfl ?_
                                  refine WL.pass (by decide) rfl rfl rfl ?_
                                  refine WL.pass (by decide) rfl rfl rfl ?_
                                  refine WL.op (by decide) (R.pickF rfl rfl) ?_
                                  refine WL.op (by decide) (R.assign rfl) ?_
                                  refine WL.nil ?_
                                  refine EW.inNormal ?_
                                  exact EW.cutK [2, 3, 5, 9] ⟨hZ15, false, by rw [rightO (by omega) (by omega) (by omega), ← hb9]; simp [h24, h25, h26], rfl⟩
                              · skip
                                refine WL.op (by decide) (R.pickT rfl rfl) ?_
                                refine WL.op (by decide) (R.move rfl) ?_
                                refine WL.pass (by decide) rfl rfl rfl ?_
                                refine WL.pass (by decide) rfl rfl rfl ?_
                                refine WL.pass (by decide) rfl rfl rfl ?_
                                refine WL.op (by decide) (R.pickF rfl rfl) ?_
                                refine WL.op (by decide) (R.move rfl) ?_
                                refine WL.pass (by decide) rfl rfl rfl ?_
                                refine WL.pass (by decide) rfl rfl rfl ?_
                                refine WL.pass (by decide) rfl rfl rfl ?_
                                refine WL.pass (by decide) rfl rfl rfl ?_
                                refine WL.op (by decide) (R.pickF rfl rfl) ?_
                                refine WL.op (by decide) (R.move rfl) ?_
                                refine WL.pass (by decide) rfl rfl rfl ?_
                                refine WL.pass (by decide) rfl rfl rfl ?_
                                refine WL.pass (by decide) rfl rfl rfl ?_
                                refine WL.pass (by decide) rfl rfl rfl ?_
                                refine WL.op (by decide) (R.pickF rfl rfl) ?_
                                refine WL.op (by decide) (R.assign rfl) ?_
                                refine WL.nil ?_
                                refine EW.inNormal ?_
                                exact EW.cutK [2, 3, 5, 9] ⟨hZ15, false, by rw [rightO (by omega) (by omega) (by omega), ← hb9]; simp [h24, h25], rfl⟩
                            · skip
                              refine WL.op (by decide) (R.pickT rfl rfl) ?_
                              refine WL.op (by decide) (R.move rfl) ?_
                              refine WL.pass (by decide) rfl rfl rfl ?_
                              refine WL.pass (by decide) rfl rfl rfl ?_
                              refine WL.pass (by decide) rfl rfl rfl ?_
                              refine WL.op (by decide) (R.pickF rfl rfl) ?_
                              refine WL.op (by decide) (R.move rfl) ?_
                              refine WL.pass (by decide) rfl rfl rfl ?_
                              refine WL.pass (by decide) rfl rfl rfl ?_
                              refine WL.pass (by decide) rfl rfl rfl ?_
                              refine WL.op (by decide) (R.pickF rfl rfl) ?_
                              refine WL.op (by decide) (R.move rfl) ?_
                              refine WL.pass (by decide) rfl rfl rfl ?_
                              refine WL.pass (by decide) rfl rfl rfl ?_
                              refine WL.pass (by decide) rfl rfl rfl ?_
                              refine WL.pass (by decide) rfl rfl rfl ?_
                              refine WL.op (by decide) (R.pickF rfl rfl) ?_
                              refine WL.op (by decide) (R.move rfl) ?_
                              refine WL.pass (by decide) rfl rfl rfl ?_
                              refine WL.pass (by decide) rfl rfl rfl ?_
                              refine WL.pass (by decide) rfl rfl rfl ?_
                              refine WL.pass (by decide) rfl rfl rfl ?_
                              refine WL.op (by decide) (R.pickF rfl rfl) ?_
                              refine WL.op (by decide) (R.assign rfl) ?_
                              refine WL.nil ?_
                              refine EW.inNormal ?_
                              exact EW.cutK [2, 3, 5, 9] ⟨hZ15, false, by rw [rightO (by omega) (by omega) (by omega), ← hb9]; simp [h24], rfl⟩
              · rintro le wy ⟨hc_wy, b9, hb9, rfl⟩
                have hB2 := hc_wy.at hB2 (fun e => e)
                have hB3 := hc_wy.at hB3 (fun e => e)
                have hC := hC.trans hc_wy
                have hz_wy := hc_wy.size
                have hz_hC := hC.size
                refine CW.rseq ?_
                have hZ23 : Chg (fun _ => False) wy wy := Chg.refl _ _
                refine WL.cut 38 (fun le w' => Chg (fun _ => False) wy w' ∧ ∃ b10, b10 = allM m ∧ le = [(2, .pointer (some ⟨b2, 0, none⟩)), (3, .pointer (some ⟨b3, 0, none⟩)), (9, .bool b9), (10, .bool b10)]) ?_ ?_
                ·
                  refine WL.op (by decide) (FA33_0 rfl) ?_
                  refine WL.op (by decide) (R.load Tryd.underlying3 rfl rfl (cell_at hB3 rfl)) ?_
                  refine WL.geqS (by decide) rfl rfl (fun h29 => ?_) (fun h29 => ?_)
                  · skip
                    refine WL.op (by decide) (R.move rfl) ?_
                    refine WL.gop (by decide) rfl rfl rfl (FA33_0 rfl) ?_
                    refine WL.gop (by decide) rfl rfl rfl (R.load Tryd.underlying3 rfl rfl (cell_at hB3 rfl)) ?_
                    refine WL.gsplit _ (by decide) rfl rfl rfl (R.leqD rfl rfl) (fun h30 => ?_) (fun h30 => ?_)
                    · skip
                      refine WL.op (by decide) (R.pickT rfl rfl) ?_
                      refine WL.op (by decide) (R.move rfl) ?_
                      refine WL.gop (by decide) rfl rfl rfl (FA33_4 rfl) ?_
                      refine WL.gop (by decide) rfl rfl rfl (R.load Tryd.underlying3 rfl rfl (cell_at hB3 rfl)) ?_
                      refine WL.gsplit _ (by decide) rfl rfl rfl (R.geqD rfl rfl) (fun h31 => ?_) (fun h31 => ?_)
                      · skip
                        refine WL.op (by decide) (R.pickT rfl rfl) ?_
                        refine WL.op (by decide) (R.move rfl) ?_
                        refine WL.gop (by decide) rfl rfl rfl (FA33_4 rfl) ?_
                        refine WL.gop (by decide) rfl rfl rfl (R.load Tryd.underlying3 rfl rfl (cell_at hB3 rfl)) ?_
                        refine WL.gsplit _ (by decide) rfl rfl rfl (R.leqD rfl rfl) (fun h32 => ?_) (fun h32 => ?_)
                        · skip
                          refine WL.op (by decide) (R.pickT rfl rfl) ?_
                          refine WL.op (by decide) (R.move rfl) ?_
                          refine WL.gop (by decide) rfl rfl rfl (R.move rfl) ?_
                          refine WL.gop (by decide) rfl rfl rfl (FA33_5 rfl) ?_
                          refine WL.gop (by decide) rfl rfl rfl (FA25_0 rfl) ?_
                          refine WL.gop (by decide) rfl rfl rfl (R.load Tryd.underlying9 rfl rfl (cell_at hB3 rfl)) ?_
                          refine WL.geff rfl rfl rfl (OP.callV (by decide) rfl Tryd.func37 (by kernel_rfl) (by kernel_rfl) rfl (goes_any _ _ (by omega)) ?_)
                          rintro ed w9 ⟨rfl, hc_w9⟩
                          have hB2 := hc_w9.at hB2 (fun e => e)
                          have hB3 := hc_w9.at hB3 (fun e => e)
                          have hC := hC.trans hc_w9
                          have hZ23 := hZ23.trans hc_w9
                          have hz_w9 := hc_w9.size
                          cases hnq : namesL m.qname
                          · skip
                            refine ⟨_, rfl, ?_⟩
                            refine WL.op (by decide) (R.pickT rfl rfl) ?_
                            refine WL.op (by decide) (R.move rfl) ?_
                            refine WL.pass (by decide) rfl rfl rfl ?_
                            refine WL.pass (by decide) rfl rfl rfl ?_
                            refine WL.pass (by decide) rfl rfl rfl ?_
                            refine WL.pass (by decide) rfl rfl rfl ?_
                            refine WL.op (by decide) (R.pickF rfl rfl) ?_
                            refine WL.op (by decide) (R.move rfl) ?_
                            refine WL.pass (by decide) rfl rfl rfl ?_
                            refine WL.pass (by decide) rfl rfl rfl ?_
                            refine WL.pass (by decide) rfl rfl rfl ?_
                            refine WL.pass (by decide) rfl rfl rfl ?_
                            refine WL.op (by decide) (R.pickF rfl rfl) ?_
                            refine WL.op (by decide) (R.assign rfl) ?_
                            exact WL.cutEnd [2, 3, 9, 10] ⟨hZ23, false, by rw [all0 hMa hMu]; simp [h29, h30, h31, h32, hnq], rfl⟩
                          · skip
                            refine ⟨_, rfl, ?_⟩
                            refine WL.op (by decide) (R.pickT rfl rfl) ?_
                            refine WL.op (by decide) (R.move rfl) ?_
                            refine WL.gop (by decide) rfl rfl rfl (FA33_5 rfl) ?_
                            refine WL.gop (by decide) rfl rfl rfl (FA25_1 rfl) ?_
                            refine WL.gop (by decide) rfl rfl rfl (R.load Tryd.underlying3 rfl rfl (cell_at hB3 rfl)) ?_
                            refine WL.gsplit _ (by decide) rfl rfl rfl (R.geqD rfl rfl) (fun h33 => ?_) (fun h33 => ?_)
                            · skip
                              refine WL.op (by decide) (R.pickT rfl rfl) ?_
                              refine WL.op (by decide) (R.move rfl) ?_
                              refine WL.gop (by decide) rfl rfl rfl (FA33_5 rfl) ?_
                              refine WL.gop (by decide) rfl rfl rfl (FA25_1 rfl) ?_
                              refine WL.gop (by decide) rfl rfl rfl (R.load Tryd.underlying3 rfl rfl (cell_at hB3 rfl)) ?_
                              refine WL.gsplit _ (by decide) rfl rfl rfl (R.leqD rfl rfl) (fun h34 => ?_) (fun h34 => ?_)
                              · skip
                                refine WL.op (by decide) (R.pickT rfl rfl) ?_
                                refine WL.op (by decide) (R.assign rfl) ?_
                                exact WL.cutEnd [2, 3, 9, 10] ⟨hZ23, true, by rw [all0 hMa hMu]; simp [h29, h30, h31, h32, hnq, h33, h34], rfl⟩
                              · skip
                                refine WL.op (by decide) (R.pickT rfl rfl) ?_
                                refine WL.op (by decide) (R.assign rfl) ?_
                                exact WL.cutEnd [2, 3, 9, 10] ⟨hZ23, false, by rw [all0 hMa hMu]; simp [h29, h30, h31, h32, hnq, h33, h34], rfl⟩
                            · skip
                              refine WL.op (by decide) (R.pickT rfl rfl) ?_
                              refine WL.op (by decide) (R.move rfl) ?_
                              refine WL.pass (by decide) rfl rfl rfl ?_
                              refine WL.pass (by decide) rfl rfl rfl ?_
                              refine WL.pass (by decide) rfl rfl rfl ?_
                              refine WL.pass (by decide) rfl rfl rfl ?_
                              refine WL.op (by decide) (R.pickF rfl rfl) ?_
                              refine WL.op (by decide) (R.assign rfl) ?_
                              exact WL.cutEnd [2, 3, 9, 10] ⟨hZ23, false, by rw [all0 hMa hMu]; simp [h29, h30, h31, h32, hnq, h33], rfl⟩
                        · skip
                          refine WL.op (by decide) (R.pickT rfl rfl) ?_
                          refine WL.op (by decide) (R.move rfl) ?_
                          refine WL.pass (by decide) rfl rfl rfl ?_
                          refine WL.pass (by decide) rfl rfl rfl ?_
                          refine WL.pass (by decide) rfl rfl rfl ?_
                          refine WL.pass (by decide) rfl rfl rfl ?_
                          refine WL.pass (by decide) rfl rfl rfl ?_
                          refine WL.op (by decide) (R.pickF rfl rfl) ?_
                          refine WL.op (by decide) (R.move rfl) ?_
                          refine WL.pass (by decide) rfl rfl rfl ?_
                          refine WL.pass (by decide) rfl rfl rfl ?_
                          refine WL.pass (by decide) rfl rfl rfl ?_
                          refine WL.pass (by decide) rfl rfl rfl ?_
                          refine WL.op (by decide) (R.pickF rfl rfl) ?_
                          refine WL.op (by decide) (R.move rfl) ?_
                          refine WL.pass (by decide) rfl rfl rfl ?_
                          refine WL.pass (by decide) rfl rfl rfl ?_
                          refine WL.pass (by decide) rfl rfl rfl ?_
                          refine WL.pass (by decide) rfl rfl rfl ?_
                          refine WL.op (by decide) (R.pickF rfl rfl) ?_
                          refine WL.op (by decide) (R.assign rfl) ?_
                          exact WL.cutEnd [2, 3, 9, 10] ⟨hZ23, false, by rw [all0 hMa hMu]; simp [h29, h30, h31, h32], rfl⟩
                      · skip
                        refine WL.op (by decide) (R.pickT rfl rfl) ?_
                        refine WL.op (by decide) (R.move rfl) ?_
                        refine WL.pass (by decide) rfl rfl rfl ?_
                        refine WL.pass (by decide) rfl rfl rfl ?_
                        refine WL.pass (by decide) rfl rfl rfl ?_
                        refine WL.op (by decide) (R.pickF rfl rfl) ?_
                        refine WL.op (by decide) (R.move rfl) ?_
                        refine WL.pass (by decide) rfl rfl rfl ?_
                        refine WL.pass (by decide) rfl rfl rfl ?_
                        refine WL.pass (by decide) rfl rfl rfl ?_
                        refine WL.pass (by decide) rfl rfl rfl ?_
                        refine WL.pass (by decide) rfl rfl rfl ?_
                        refine WL.op (by decide) (R.pickF rfl rfl) ?_
                        refine WL.op (by decide) (R.move rfl) ?_
                        refine WL.pass (by decide) rfl rfl rfl ?_
                        refine WL.pass (by decide) rfl rfl rfl ?_
                        refine WL.pass (by decide) rfl rfl rfl ?_
                        refine WL.pass (by decide) rfl rfl rfl ?_
                        refine WL.op (by decide) (R.pickF rfl rfl) ?_
                        refine WL.op (by decide) (R.move rfl) ?_
                        refine WL.pass (by decide) rfl rfl rfl ?_
                        refine WL.pass (by decide) rfl rfl rfl ?_
                        refine WL.pass (by decide) rfl rfl rfl ?_
                        refine WL.pass (by decide) rfl rfl rfl ?_
                        refine WL.op (by decide) (R.pickF rfl rfl) ?_
                        refine WL.op (by decide) (R.assign rfl) ?_
                        exact WL.cutEnd [2, 3, 9, 10] ⟨hZ23, false, by rw [all0 hMa hMu]; simp [h29, h30, h31], rfl⟩
                    · skip
                      refine WL.op (by decide) (R.pickT rfl rfl) ?_
                      refine WL.op (by decide) (R.move rfl) ?_
                      refine WL.pass (by decide) rfl rfl rfl ?_
                      refine WL.pass (by decide) rfl rfl rfl ?_
                      refine WL.pass (by decide) rfl rfl rfl ?_
                      refine WL.op (by decide) (R.pickF rfl rfl) ?_
                      refine WL.op (by decide) (R.move rfl) ?_
                      refine WL.pass (by decide) rfl rfl rfl ?_
                      refine WL.pass (by decide) rfl rfl rfl ?_
                      refine WL.pass (by decide) rfl rfl rfl ?_
                      refine WL.op (by decide) (R.pickF rfl rfl) ?_
                      refine WL.op (by decide) (R.move rfl) ?_
                      refine WL.pass (by decide) rfl rfl rfl ?_
                      refine WL.pass (by decide) rfl rfl rfl ?_
                      refine WL.pass (by decide) rfl rfl rfl ?_
                      refine WL.pass (by decide) rfl rfl rfl ?_
                      refine WL.pass (by decide) rfl rfl rfl ?_
                      refine WL.op (by decide) (R.pickF rfl rfl) ?_
                      refine WL.op (by decide) (R.move rfl) ?_
                      refine WL.pass (by decide) rfl rfl rfl ?_
                      refine WL.pass (by decide) rfl rfl rfl ?_
                      refine WL.pass (by decide) rfl rfl rfl ?_
                      refine WL.pass (by decide) rfl rfl rfl ?_
                      refine WL.op (by decide) (R.pickF rfl rfl) ?_
                      refine WL.op (by decide) (R.move rfl) ?_
                      refine WL.pass (by decide) rfl rfl rfl ?_
                      refine WL.pass (by decide) rfl rfl rfl ?_
                      refine WL.pass (by decide) rfl rfl rfl ?_
                      refine WL.pass (by decide) rfl rfl rfl ?_
                      refine WL.op (by decide) (R.pickF rfl rfl) ?_
                      refine WL.op (by decide) (R.assign rfl) ?_
                      exact WL.cutEnd [2, 3, 9, 10] ⟨hZ23, false, by rw [all0 hMa hMu]; simp [h29, h30], rfl⟩
                  · skip
                    refine WL.op (by decide) (R.move rfl) ?_
                    refine WL.pass (by decide) rfl rfl rfl ?_
                    refine WL.pass (by decide) rfl rfl rfl ?_
                    refine WL.pass (by decide) rfl rfl rfl ?_
                    refine WL.op (by decide) (R.pickF rfl rfl) ?_
                    refine WL.op (by decide) (R.move rfl) ?_
                    refine WL.pass (by decide) rfl rfl rfl ?_
                    refine WL.pass (by decide) rfl rfl rfl ?_
                    refine WL.pass (by decide) rfl rfl rfl ?_
                    refine WL.op (by decide) (R.pickF rfl rfl) ?_
                    refine WL.op (by decide) (R.move rfl) ?_
                    refine WL.pass (by decide) rfl rfl rfl ?_
                    refine WL.pass (by decide) rfl rfl rfl ?_
                    refine WL.pass (by decide) rfl rfl rfl ?_
                    refine WL.op (by decide) (R.pickF rfl rfl) ?_
                    refine WL.op (by decide) (R.move rfl) ?_
                    refine WL.pass (by decide) rfl rfl rfl ?_
                    refine WL.pass (by decide) rfl rfl rfl ?_
                    refine WL.pass (by decide) rfl rfl rfl ?_
                    refine WL.pass (by decide) rfl rfl rfl ?_
                    refine WL.pass (by decide) rfl rfl rfl ?_
                    refine WL.op (by decide) (R.pickF rfl rfl) ?_
                    refine WL.op (by decide) (R.move rfl) ?_
                    refine WL.pass (by decide) rfl rfl rfl ?_
                    refine WL.pass (by decide) rfl rfl rfl ?_
                    refine WL.pass (by decide) rfl rfl rfl ?_
                    refine WL.pass (by decide) rfl rfl rfl ?_
                    refine WL.op (by decide) (R.pickF rfl rfl) ?_
                    refine WL.op (by decide) (R.move rfl) ?_
                    refine WL.pass (by decide) rfl rfl rfl ?_
                    refine WL.pass (by decide) rfl rfl rfl ?_
                    refine WL.pass (by decide) rfl rfl rfl ?_
                    refine WL.pass (by decide) rfl rfl rfl ?_
                    refine WL.op (by decide) (R.pickF rfl rfl) ?_
                    refine WL.op (by decide) (R.assign rfl) ?_
                    exact WL.cutEnd [2, 3, 9, 10] ⟨hZ23, false, by rw [all0 hMa hMu]; simp [h29], rfl⟩
                · rintro le wz10 ⟨hc_wz10, b10, hb10, rfl⟩
                  have hB2 := hc_wz10.at hB2 (fun e => e)
                  have hB3 := hc_wz10.at hB3 (fun e => e)
                  have hC := hC.trans hc_wz10
                  have hZ23 := hZ23.trans hc_wz10
                  have hz_wz10 := hc_wz10.size
                  refine WL.next ?_
                  refine CW.rseq ?_
                  refine WL.op (by decide) (R.loadM rfl hB3) ?_
                  refine WL.eff rfl (OP.allocM (by decide) ?_)
                  intro w11 hc_w11 hs_w11 hB11
                  obtain ⟨b11, he_b11⟩ : ∃ b, b = wz10.heap.size := ⟨_, rfl⟩
                  rw [← he_b11] at hB11 ⊢
                  have hB2 := hc_w11.at hB2 (fun e => e)
                  have hB3 := hc_w11.at hB3 (fun e => e)
                  have hC := hC.trans hc_w11
                  have hZ23 := hZ23.trans hc_w11
                  have hz_w11 := hc_w11.size
                  refine WL.eff rfl (OP.storeM rfl rfl hB11 ?_)
                  intro w12 hc_w12 hs_w12 hB11
                  have hB2 := hc_w12.at hB2 (fun e => by omega)
                  have hB3 := hc_w12.at hB3 (fun e => by omega)
                  have hC := hC.thenB hc_w12 (by omega)
                  have hZ23 := hZ23.thenB hc_w12 (by omega)
                  refine WL.next ?_
                  refine CW.rseq ?_
                  refine WL.op (by decide) (R.loadRB (by first | assumption | rfl) rfl hB2) ?_
                  refine WL.eff rfl (OP.buildSliceR (by decide) rfl hA16 ?_)
                  intro w13 hc_w13 hs_w13 hN
                  obtain ⟨bN, he_bN⟩ : ∃ b, b = w12.heap.size := ⟨_, rfl⟩
                  rw [← he_bN] at hN ⊢
                  have hB2 := hc_w13.at hB2 (fun e => e)
                  have hB3 := hc_w13.at hB3 (fun e => e)
                  have hB11 := hc_w13.at hB11 (fun e => e)
                  have hC := hC.trans hc_w13
                  have hZ23 := hZ23.trans hc_w13
                  have hz_w13 := hc_w13.size
                  refine WL.op (by decide) (FA33_6 rfl) ?_
                  refine WL.eff rfl (OP.storeAns (rs := [r]) rfl rfl hB11 ?_)
                  intro w14 hc_w14 hs_w14 hB11
                  have hB2 := hc_w14.at hB2 (fun e => by omega)
                  have hB3 := hc_w14.at hB3 (fun e => by omega)
                  have hN := hc_w14.at hN (fun e => by omega)
                  have hC := hC.thenB hc_w14 (by omega)
                  have hZ23 := hZ23.thenB hc_w14 (by omega)
                  have hva1 := RSl.one hN hA16 (Nat.le_refl _)
                  have hK14 : Chg (fun _ => False) w14 w14 := Chg.refl _ _
                  refine WL.next ?_
                  refine CW.rseq ?_
                  refine WL.op (by decide) (R.loadRB (by first | assumption | rfl) rfl hB2) ?_
                  refine WL.eff rfl (OP.call (by decide) Tryd.func41 (by kernel_rfl) (by kernel_rfl) rfl (mright_any _ _ hA16 (hG.keep0 hC) (by omega) (by omega) (by omega)) ?_)
                  rintro ed w15 ⟨rfl, hc_w15⟩
                  refine ⟨_, rfl, ?_⟩
                  have hB2 := hc_w15.at hB2 (fun e => e)
                  have hB3 := hc_w15.at hB3 (fun e => e)
                  have hB11 := hc_w15.at hB11 (fun e => e)
                  have hN := hc_w15.at hN (fun e => e)
                  have hC := hC.trans hc_w15
                  have hZ23 := hZ23.trans hc_w15
                  have hK14 := hK14.trans hc_w15
                  have hz_w15 := hc_w15.size
                  refine WL.op (by decide) (R.move rfl) ?_
                  refine WL.op (by decide) (R.eqlBT rfl rfl hb9.symm) ?_
                  refine WL.op (by decide) (R.move rfl) ?_
                  refine WL.gop (by decide) rfl rfl rfl (R.loadM rfl hB3) ?_
                  refine WL.geff rfl rfl rfl (OP.call (by decide) Tryd.func30 (by kernel_rfl) (by kernel_rfl) rfl (all_any _ _ _ ⟨_, _, rfl, (by rw [hMa]; exact RSl.empty _ _ _), (by rw [hMu]; exact RSl.empty _ _ _)⟩ (hG.keep0 hC) (small0 hMa hMu (by omega))) ?_)
                  rintro ed w16 ⟨rfl, hc_w16⟩
                  refine ⟨_, rfl, ?_⟩
                  have hB2 := hc_w16.at hB2 (fun e => e)
                  have hB3 := hc_w16.at hB3 (fun e => e)
                  have hB11 := hc_w16.at hB11 (fun e => e)
                  have hN := hc_w16.at hN (fun e => e)
                  have hC := hC.trans hc_w16
                  have hZ23 := hZ23.trans hc_w16
                  have hK14 := hK14.trans hc_w16
                  have hz_w16 := hc_w16.size
                  refine WL.gop (by decide) rfl rfl rfl (R.move rfl) ?_
                  refine WL.gop (by decide) rfl rfl rfl (R.eqlBT rfl rfl hb10.symm) ?_
                  refine WL.op (by decide) (R.pickT rfl rfl) ?_
                  refine WL.op (by decide) (R.move rfl) ?_
                  refine WL.gop (by decide) rfl rfl rfl (R.loadM rfl hB11) ?_
                  refine WL.geff rfl rfl rfl (OP.call (by decide) Tryd.func30 (by kernel_rfl) (by kernel_rfl) rfl (all_any _ _ _ ⟨_, _, rfl, (hva1.keep0 hK14), (by rw [hMu]; exact RSl.empty _ _ _)⟩ (hG.keep0 hC) (small1 hMu (by omega) (by omega) (by omega) (by omega))) ?_)
                  rintro ed w17 ⟨rfl, hc_w17⟩
                  refine ⟨_, rfl, ?_⟩
                  have hB2 := hc_w17.at hB2 (fun e => e)
                  have hB3 := hc_w17.at hB3 (fun e => e)
                  have hB11 := hc_w17.at hB11 (fun e => e)
                  have hN := hc_w17.at hN (fun e => e)
                  have hC := hC.trans hc_w17
                  have hZ23 := hZ23.trans hc_w17
                  have hK14 := hK14.trans hc_w17
                  have hz_w17 := hc_w17.size
                  refine WL.gop (by decide) rfl rfl rfl (R.move rfl) ?_
                  cases b10
                  · skip
                    skip
                    refine WL.gop (by decide) rfl rfl rfl (R.move rfl) ?_
                    refine WL.pass (by decide) rfl rfl rfl ?_
                    refine WL.gop (by decide) rfl rfl rfl (R.pickF rfl rfl) ?_
                    refine WL.gop (by decide) rfl rfl rfl (R.eqlBT rfl rfl (by rw [all1 hMa hMu, ← hb10, ← hb9]; simp)) ?_
                    refine WL.op (by decide) (R.pickT rfl rfl) ?_
                    refine WL.op (by decide) (R.assign rfl) ?_
                    refine WL.next ?_
                    refine CW.ret ?_
                    exact EW.ret1 (.inl rfl) rfl rfl ⟨rfl, hC⟩
                  · skip
                    skip
                    refine WL.gop (by decide) rfl rfl rfl (R.move rfl) ?_
                    refine WL.gop (by decide) rfl rfl rfl (R.move rfl) ?_
                    refine WL.gop (by decide) rfl rfl rfl (R.pickT rfl rfl) ?_
                    refine WL.gop (by decide) rfl rfl rfl (R.eqlBT rfl rfl (by rw [all1 hMa hMu, ← hb10, ← hb9]; simp)) ?_
                    refine WL.op (by decide) (R.pickT rfl rfl) ?_
                    refine WL.op (by decide) (R.assign rfl) ?_
                    refine WL.next ?_
                    refine CW.ret ?_
                    exact EW.ret1 (.inl rfl) rfl rfl ⟨rfl, hC⟩
end Go.Proofs.YthcpjcgjmdfpjaaDoor

namespace Go.Proofs.YthcpjcgjmdfpjaaDoor
open Go Go.ChangeShapes Go.WideShapes Go.ChangeAt Go.RowKit
set_option maxRecDepth 100000

theorem msgRight_lifted (os : Os) (started : os.Started) (H : Type) (enc : TypeId × Value → H) :
    ReturnsInHanded {} Tryd.checked os 16 .any (fun w args => (Rows.msgRightSpec.pre enc Tryd.prog Tryd.f16 [] false w args ∧ laidMetH Tryd.prog laidL w) ∧ sizedMet enc Tryd.prog Tryd.f16 (OpenSpec.ofChange Rows.msgRightSpec) false w args)
      (Rows.msgRightSpec.post enc Tryd.prog Tryd.f16 false true false false) := by
  refine law_lifted (s := Rows.msgRightSpec) started Tryd.func16 (by kernel_rfl) rfl (by kernel_rfl) (by kernel_rfl) ?_ ?_
    (ChangeSpec.witness_shaped (enc := enc) (C := Tryd.checked) (os := os) (X := fun w _ => laidMetH Tryd.prog laidL w) false (World.laidAll Tryd.prog os laidL) #[Rec.val ⟨[], 0, 0, zero16, [], []⟩, .agg (Msg.cells ⟨0, false, false, false, 0, [], 0, [], []⟩ (.slice none 0 0) (.slice none 0 0)).toArray] 8 (World.laidAll_os _ _ _)
      (World.shaped_of_ZipB (by kernel_rfl) (by kernel_rfl)) (by kernel_rfl) (by kernel_rfl) (by kernel_rfl)
      (by rw [MakeChecks.laidMetH_plain _ _ _ (by kernel_rfl)]; exact laidMet_laidAll _ (by kernel_rfl) (by kernel_rfl))) ?_
  · intro ds hl
    rw [show Tryd.f16.params.size = 2 by rw [Tryd.params16]; rfl] at hl
    obtain ⟨d0, d1, rfl⟩ := list2 hl
    rfl
  · intro W vs ds ps h
    exact trodAll_len h
  intro W base args ds p hval hA hlt hw hG
  rw [Tryd.params16] at hA hval hw
  obtain ⟨v0, v1, d0, d1, p0, p1, rfl, rfl, rfl, h0, h1⟩ := trodAll_two hA
  obtain ⟨r, m, A, la, ca, B, lb, cb, rfl, rfl, h16, hMa, hMu, hn1, hn2, hn3, hn4, hla, hlb⟩ := open_right (hval 0 57 v0 rfl rfl) h0 (hval 1 33 v1 rfl rfl) h1 hw
  exact msgRight_any r m A la ca B lb cb W h16 hMa hMu hn1 hn2 hn3 hn4 hla hlb hG

theorem msgRight_joined : joinedFacts Tryd.prog 16 Tryd.f16 Rows.msgRightSpec Rows.msgRightRow = true :=
  joined_of seat_mayEnter seat_lifts seat_make rfl rfl rfl rfl (by kernel_rfl) (by kernel_rfl) (by kernel_rfl) (by kernel_rfl) (by kernel_rfl) (by kernel_rfl) (by kernel_rfl) (by kernel_rfl) (by kernel_rfl) (by kernel_rfl) (by kernel_rfl) (by kernel_rfl) (by kernel_rfl) (by kernel_rfl) (by kernel_rfl) (by kernel_rfl) (by kernel_rfl) (by kernel_rfl) (by kernel_rfl) (by kernel_rfl) (by kernel_rfl) (by kernel_rfl) (by kernel_rfl) (by kernel_rfl) (by kernel_rfl) (by kernel_rfl) (by kernel_rfl) (by kernel_rfl)
theorem msgRight_holds : Rows.MsgRightSaid :=
  OpenClaim.holds_of_wide 16 Tryd.f16 rfl rfl rfl rfl rfl rfl rfl ⟨rfl, rfl, rfl, rfl, rfl⟩ rfl rfl rfl rfl rfl (by kernel_rfl) Tryd.func16 msgRight_joined
    (of_decide_eq_true (by kernel_rfl)) (by unfold Func.isWrapper; first | (rw [if_pos (by decide +kernel)]; kernel_rfl) | (rw [if_neg (by decide +kernel)]; exact ⟨rfl, rfl⟩))
    (fun os started H enc _ => msgRight_lifted os started H enc)
theorem msgRight_card : Rows.MsgRightCardSaid :=
  Claim7.holds_tied_plain_at .later [] [.data] true (true, "6afa14409c1fcf784e159d3dd9af9e0af6fc07a3d3e06aa2c8b4c577951ca517") false msgRight_holds (fun _ h => by cases h) (by kernel_rfl) (fun _ h => by cases h) msgRight_row_tie rfl ⟨rfl, rfl⟩ seat_main rfl
    (fun f fn hf hfn => by
      obtain rfl : f = 16 := Option.some.inj ((show Tryd.prog.funcNamed "nomenclator/nomenclatorlaw04.MsgRight" = some 16 by kernel_rfl).symm.trans hf) |>.symm
      obtain rfl : fn = Tryd.f16 := (Option.some.inj (Tryd.func16.symm.trans hfn)).symm
      exact ⟨by kernel_rfl, fun j t ht => by
        rw [Tryd.params16] at ht
        have hm : t ∈ [57, 33] := by simpa using Array.mem_of_getElem? ht
        have hall : ([57, 33].all fun u => !Tryd.prog.wantsStandIn u) = true := by kernel_rfl
        exact (show Tryd.prog.wantsStandIn t = false by simpa using List.all_eq_true.1 hall t hm)⟩)
    (by kernel_rfl)
end Go.Proofs.YthcpjcgjmdfpjaaDoor
