/- The writer in memory: its bytes, its map of the names' places; what it writes of a name: plain. -/
import Derived.Test.YthcpjcgjmdfpjaaDoorDec
import Derived.MapKept
namespace Go.Proofs.YthcpjcgjmdfpjaaDoor
open Go Go.RowKit
set_option maxRecDepth 100000

abbrev At := List (List UInt8 × Nat)
def lookA : At → List UInt8 → Option Nat
  | [], _ => none
  | (s, p) :: r, k => if s = k then some p else lookA r k
theorem lookA_mem : ∀ {at_ : At} {k : List UInt8} {p : Nat}, lookA at_ k = some p → (k, p) ∈ at_
  | [], _, _, h => by cases h
  | (s, q) :: r, k, p, h => by
    unfold lookA at h
    split at h
    · rename_i e; subst e; obtain rfl := Option.some.inj h; simp
    · have := lookA_mem h; simp [this]

/-- The map in memory. -/
def WMap (w : World) (mb : Nat) (at_ : At) : Prop := (∀ e ∈ at_, e.2 < 16384) ∧ ∃ es clock, w.heap[mb]? = some (.map es clock) ∧ es.toList.map (fun e => (e.key, e.val)) = at_.map (fun e => (sv e.1, Value.int .i64 (e.2 : Nat)))
theorem WMap.kept {w w' : World} {mb : Nat} {at_ : At} {S : Nat → Prop} (h : WMap w mb at_) (hc : Chg S w w') (hn : ¬ S mb) : WMap w' mb at_ := by
  obtain ⟨h1, es, clock, h2, h3⟩ := h
  exact ⟨h1, es, clock, hc.at h2 hn, h3⟩
theorem WMap.made {w : World} {mb : Nat} (h : w.heap[mb]? = some (.map #[] 0)) : WMap w mb [] := ⟨by simp, _, _, h, rfl⟩

theorem findNow_at : ∀ (es : List MapEntry) (at_ : At) (k : List UInt8) (i : Nat), es.map (fun e => (e.key, e.val)) = at_.map (fun e => (sv e.1, Value.int .i64 (e.2 : Nat))) →
    ∃ r, Instr.findNow .string (sv k) es i = some r ∧ (match lookA at_ k with | some p => ∃ j, r = some (j, .int .i64 (p : Nat)) | none => r = none)
  | [], at_, k, i, h => by
    have : at_ = [] := by cases at_ with
      | nil => rfl
      | cons _ _ => simp at h
    subst this
    exact ⟨none, rfl, rfl⟩
  | e :: es, at_, k, i, h => by
    cases at_ with
    | nil => simp at h
    | cons a at_ =>
      obtain ⟨s, p⟩ := a
      simp only [List.map_cons, List.cons.injEq, Prod.mk.injEq] at h
      obtain ⟨⟨hk, hv⟩, ht⟩ := h
      have hs : Instr.sameNow .string (sv k) e.key = some (decide (k = s)) := by
        rw [hk]
        unfold sv
        simp only [Instr.sameNow]
        congr 1
        by_cases hq : k = s
        · subst hq
          rw [(MapKept.bytes_beq _ _).2 rfl]; simp
        · have : ¬ ((⟨k.toArray⟩ : ByteArray) == ⟨s.toArray⟩) = true := by
            intro hb
            have := (MapKept.bytes_beq _ _).1 hb
            injection this with this
            exact hq (by simpa using congrArg Array.toList this)
          simp [hq, this]
      simp only [Instr.findNow, hs]
      by_cases hq : s = k
      · subst hq
        refine ⟨some (i, e.val), by simp, ?_⟩
        simp only [lookA, if_true]
        exact ⟨i, by rw [hv]⟩
      · have hq' : ¬ k = s := fun h => hq h.symm
        obtain ⟨r, h1, h2⟩ := findNow_at es at_ k (i + 1) ht
        refine ⟨r, by simp [hq', h1], ?_⟩
        simp only [lookA, if_neg hq]; exact h2

section
variable {l : Env} {w : World} {x y z : Operand} {mb : Nat} {at_ : At} {k : List UInt8}
theorem u91 : Tryd.prog.underlying 91 = some (.map 9 3) := by kernel_rfl
theorem zero3 (w : World) : (zeroValue 3).run Tryd.prog w = .ok (.int .i64 0) w := by kernel_rfl
theorem isKey_sv (s : List UInt8) : MapKept.IsKey .string (sv s) := by unfold sv; simp [MapKept.IsKey]
theorem R.lookup (hx : ev l x = some (.map (some mb))) (hy : ev l y = some (sv k)) (hM : WMap w mb at_) : Runs Tryd.prog l (.lookup 91 x y true) w (match lookA at_ k with | some p => .tuple #[.int .i64 (p : Nat), .bool true] | none => .tuple #[.int .i64 0, .bool false]) w := fun r _ _ _ _ _ he => by
  obtain ⟨_, es, clock, hb, hes⟩ := hM
  obtain ⟨q, h1, h2⟩ := findNow_at es.toList at_ k 0 hes
  have hc : (Instr.checkKey es.isEmpty 10000 9 (sv k)).run Tryd.prog w = .ok () w := MapKept.run_checkKey Tryd.underlying9 (isKey_sv k) _ 9999
  have hf := MapKept.run_findKey (P := Tryd.prog) (w := w) Tryd.underlying9 h1
  cases hl : lookA at_ k with
  | none =>
    rw [hl] at h2
    subst h2
    simp [execOp, he x _ hx, he y _ hy, Instr.lookup, run_underlying u91, MapKept.run_getObj_map hb, hc, hf, zero3]
  | some p =>
    rw [hl] at h2
    obtain ⟨j, rfl⟩ := h2
    simp [execOp, he x _ hx, he y _ hy, Instr.lookup, run_underlying u91, MapKept.run_getObj_map hb, hc, hf]
theorem OP.mapUpdate {n : Nat} {Q : Exit → Act → World → Prop} {M : Env → World → Prop} {t : TypeId} {pos : String} {af : Array Edge} {p : Nat} (hx : ev l x = some (.map (some mb))) (hy : ev l y = some (sv k)) (hz : ev l z = some (.int .i64 (p : Nat))) (hM : WMap w mb at_) (hno : lookA at_ k = none) (hp : p < 16384)
    (h : ∀ w', Chg (fun j => j = mb) w w' → w'.heap.size = w.heap.size → WMap w' mb (at_ ++ [(k, p)]) → M l w') :
    OP Tryd.prog Q ⟨none, .mapUpdate 91 x y z, t, pos, af, none⟩ n l w M := by
  obtain ⟨hlt, es, clock, hb, hes⟩ := hM
  obtain ⟨q, h1, h2⟩ := findNow_at es.toList at_ k 0 hes
  rw [hno] at h2
  subst h2
  have hc : (Instr.checkKey false 10000 9 (sv k)).run Tryd.prog w = .ok () w := MapKept.run_checkKey Tryd.underlying9 (isKey_sv k) _ 9999
  have hf := MapKept.run_findKey (P := Tryd.prog) (w := w) Tryd.underlying9 h1
  have hset := MapKept.heap_set (o' := Obj.map (es.push { key := sv k, val := .int .i64 (p : Nat), born := clock }) (clock + 1)) hb
  refine OP.unit (w' := { w with heap := w.heap.setIfInBounds mb (.map (es.push { key := sv k, val := .int .i64 (p : Nat), born := clock }) (clock + 1)) }) (fun r _ _ _ _ _ he => ?_) (h _ ?_ (by simp) ?_)
  · simp [execOp, he x _ hx, he y _ hy, he z _ hz, Instr.mapUpdate, run_underlying u91, MapKept.run_getObj_map hb, hc, hf, MapKept.run_setObj_map _ hb]
  · exact ⟨rfl, rfl, rfl, by simp, fun j hj hn => hset.2 j hn⟩
  · refine ⟨fun e he => ?_, _, _, hset.1, by simp [hes]⟩
    rcases List.mem_append.1 he with h3 | h3
    · exact hlt e h3
    · rw [List.mem_singleton.1 h3]; exact hp
end

/-- What a name's labels lay behind the bytes that stand already. -/
def wrLabels : List (List UInt8) → List UInt8 → At → List UInt8 × At
  | [], b, at_ => (b ++ [0], at_)
  | x :: xs, b, at_ => match lookA at_ (joinL (x :: xs)) with
    | some p => (b ++ beN 2 ((49152 ||| p : Nat) : Int), at_)
    | none => wrLabels xs (b ++ [byteOf (x.length : Nat)] ++ x) (if b.length < 16384 then at_ ++ [(joinL (x :: xs), b.length)] else at_)
def wrName (s : List UInt8) (st : List UInt8 × At) : List UInt8 × At := wrLabels (splitL s) st.1 st.2
/-- How long labels are, with their lengths. -/
def wlen : List (List UInt8) → Nat
  | [] => 0
  | x :: xs => x.length + 1 + wlen xs
theorem wlen_joinL : ∀ l : List (List UInt8), (joinL l).length ≤ wlen l
  | [] => by simp [joinL]
  | [x] => by simp [joinL, wlen]
  | x :: y :: r => by
    have := wlen_joinL (y :: r)
    simp only [joinL, wlen, List.length_append, List.length_cons] at this ⊢
    omega
theorem wlen_ph (a : List UInt8) {l : List (List UInt8)} (h : l ≠ []) : wlen (ph a l) = a.length + wlen l := by
  cases l with
  | nil => exact absurd rfl h
  | cons x xs => simp [ph, wlen]; omega
theorem wlen_split (s : List UInt8) : wlen (splitL s) = s.length + 1 := by
  induction s with
  | nil => rfl
  | cons c r ih =>
    by_cases e : c = 46
    · subst e; rw [splitL_dot]; simp [wlen, ih]; omega
    · rw [splitL_sign e, wlen_ph _ (splitL_ne r), ih]; simp; omega
theorem wlen_drop {ls : List (List UInt8)} {i : Nat} {x : List UInt8} (h : ls[i]? = some x) : wlen (ls.drop i) = x.length + 1 + wlen (ls.drop (i + 1)) := by
  have hlt := (List.getElem?_eq_some_iff.1 h).1
  have hv := (List.getElem?_eq_some_iff.1 h).2
  rw [List.drop_eq_getElem_cons hlt, hv]; rfl
theorem wr_drop {ls : List (List UInt8)} {i : Nat} {x b : List UInt8} {at_ : At} (h : ls[i]? = some x) : wrLabels (ls.drop i) b at_ = match lookA at_ (joinL (ls.drop i)) with
    | some p => (b ++ beN 2 ((49152 ||| p : Nat) : Int), at_)
    | none => wrLabels (ls.drop (i + 1)) (b ++ [byteOf (x.length : Nat)] ++ x) (if b.length < 16384 then at_ ++ [(joinL (ls.drop i), b.length)] else at_) := by
  have hlt := (List.getElem?_eq_some_iff.1 h).1
  have hv := (List.getElem?_eq_some_iff.1 h).2
  rw [List.drop_eq_getElem_cons hlt, hv]; rfl

/-- The writer in memory. -/
def WSt (w : World) (wb mb base : Nat) (v : Value) (st : List UInt8 × At) : Prop := w.heap[wb]? = some (.cells #[v, .map (some mb)] 93 (0, 0)) ∧ Buf w base v st.1 ∧ WMap w mb st.2
theorem Buf.one {w : World} {base : Nat} {v : Value} {bs : List UInt8} (h : Buf w base v bs) : v.oneCell' = true ∧ v.cells = #[v] := by
  obtain ⟨a, c, rfl⟩ := h.slice
  exact ⟨rfl, rfl⟩

theorem binOp_orN (t : TypeId) (a b : Nat) (ha : a < 4294967296) (hb : b < 4294967296) : binOp .or t (.int .i64 (a : Int)) (.int .i64 (b : Int)) = pure (.int .i64 ((a ||| b : Nat) : Int)) := by
  simp only [binOp, Op.intBits, ne_eq, not_true, ite_false]
  have hbv : ∀ k : Nat, k < 18446744073709551616 → (BitVec.ofInt IntKind.i64.bits (k : Int)).toNat = k := by
    intro k hk
    show (BitVec.ofInt 64 (k : Int)).toNat = k
    simp [BitVec.toNat_ofInt]; omega
  have e : (BitVec.ofInt IntKind.i64.bits (a : Int) ||| BitVec.ofInt IntKind.i64.bits (b : Int)).toNat = a ||| b := by
    rw [BitVec.toNat_or, hbv _ (by omega), hbv _ (by omega)]
  have hle : a ||| b < 2 ^ 32 := Nat.or_lt_two_pow (by omega) (by omega)
  rw [e, IntWalk.i64_in _ (by omega)]
theorem R.orN {l : Env} {w : World} {x y : Operand} {t ty : TypeId} {P : Program} {a b : Nat} (hx : ev l x = some (.int .i64 (a : Int))) (hy : ev l y = some (.int .i64 (b : Int))) (ha : a < 4294967296) (hb : b < 4294967296) : Runs P l (.binOp .or t x y ty) w (.int .i64 ((a ||| b : Nat) : Int)) w :=
  R.bin hx hy (binOp_orN t a b ha hb)
end Go.Proofs.YthcpjcgjmdfpjaaDoor
