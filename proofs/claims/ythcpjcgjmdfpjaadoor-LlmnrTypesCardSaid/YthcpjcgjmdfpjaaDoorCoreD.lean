/- Words, contracts and walks that several statements share (CoreD): WrSpec, Put, WName, WRec, Enc, Ops6, Draw. -/
import Derived.Test.YthcpjcgjmdfpjaaDoorCoreC
import Derived.MapKept
import Derived.Test.YthcpjcgjmdfpjaaDoorCoreA
namespace Go.Proofs.YthcpjcgjmdfpjaaDoor
open Go Go.RowKit
set_option maxRecDepth 100000

abbrev At := List (List UInt8 × Nat)
def lookA : At → List UInt8 → Option Nat
  | [], _ => none
  | (s, p) :: r, k => if s = k then some p else lookA r k
theorem lookA_mem : ∀ {at_ : At} {k : List UInt8} {p : Nat}, lookA at_ k = some p → (k, p) ∈ at_
  | [], _, _, h => by cases h
  | (s, q) :: r, k, p, h => by
    unfold lookA at h
    split at h
    · rename_i e; subst e; obtain rfl := Option.some.inj h; simp
    · have := lookA_mem h; simp [this]

/-- The map in memory. -/
def WMap (w : World) (mb : Nat) (at_ : At) : Prop := (∀ e ∈ at_, e.2 < 16384) ∧ ∃ es clock, w.heap[mb]? = some (.map es clock) ∧ es.toList.map (fun e => (e.key, e.val)) = at_.map (fun e => (sv e.1, Value.int .i64 (e.2 : Nat)))
theorem WMap.kept {w w' : World} {mb : Nat} {at_ : At} {S : Nat → Prop} (h : WMap w mb at_) (hc : Chg S w w') (hn : ¬ S mb) : WMap w' mb at_ := by
  obtain ⟨h1, es, clock, h2, h3⟩ := h
  exact ⟨h1, es, clock, hc.at h2 hn, h3⟩
theorem WMap.made {w : World} {mb : Nat} (h : w.heap[mb]? = some (.map #[] 0)) : WMap w mb [] := ⟨by simp, _, _, h, rfl⟩

theorem findNow_at : ∀ (es : List MapEntry) (at_ : At) (k : List UInt8) (i : Nat), es.map (fun e => (e.key, e.val)) = at_.map (fun e => (sv e.1, Value.int .i64 (e.2 : Nat))) →
    ∃ r, Instr.findNow .string (sv k) es i = some r ∧ (match lookA at_ k with | some p => ∃ j, r = some (j, .int .i64 (p : Nat)) | none => r = none)
  | [], at_, k, i, h => by
    have : at_ = [] := by cases at_ with
      | nil => rfl
      | cons _ _ => simp at h
    subst this
    exact ⟨none, rfl, rfl⟩
  | e :: es, at_, k, i, h => by
    cases at_ with
    | nil => simp at h
    | cons a at_ =>
      obtain ⟨s, p⟩ := a
      simp only [List.map_cons, List.cons.injEq, Prod.mk.injEq] at h
      obtain ⟨⟨hk, hv⟩, ht⟩ := h
      have hs : Instr.sameNow .string (sv k) e.key = some (decide (k = s)) := by
        rw [hk]
        unfold sv
        simp only [Instr.sameNow]
        congr 1
        by_cases hq : k = s
        · subst hq
          rw [(MapKept.bytes_beq _ _).2 rfl]; simp
        · have : ¬ ((⟨k.toArray⟩ : ByteArray) == ⟨s.toArray⟩) = true := by
            intro hb
            have := (MapKept.bytes_beq _ _).1 hb
            injection this with this
            exact hq (by simpa using congrArg Array.toList this)
          simp [hq, this]
      simp only [Instr.findNow, hs]
      by_cases hq : s = k
      · subst hq
        refine ⟨some (i, e.val), by simp, ?_⟩
        simp only [lookA, if_true]
        exact ⟨i, by rw [hv]⟩
      · have hq' : ¬ k = s := fun h => hq h.symm
        obtain ⟨r, h1, h2⟩ := findNow_at es at_ k (i + 1) ht
        refine ⟨r, by simp [hq', h1], ?_⟩
        simp only [lookA, if_neg hq]; exact h2

section
variable {l : Env} {w : World} {x y z : Operand} {mb : Nat} {at_ : At} {k : List UInt8}
theorem u91 : Tryd.prog.underlying 91 = some (.map 9 3) := by kernel_rfl
theorem zero3 (w : World) : (zeroValue 3).run Tryd.prog w = .ok (.int .i64 0) w := by kernel_rfl
theorem isKey_sv (s : List UInt8) : MapKept.IsKey .string (sv s) := by unfold sv; simp [MapKept.IsKey]
theorem R.lookup (hx : ev l x = some (.map (some mb))) (hy : ev l y = some (sv k)) (hM : WMap w mb at_) : Runs Tryd.prog l (.lookup 91 x y true) w (match lookA at_ k with | some p => .tuple #[.int .i64 (p : Nat), .bool true] | none => .tuple #[.int .i64 0, .bool false]) w := fun r _ _ _ _ _ he => by
  obtain ⟨_, es, clock, hb, hes⟩ := hM
  obtain ⟨q, h1, h2⟩ := findNow_at es.toList at_ k 0 hes
  have hc : (Instr.checkKey es.isEmpty 10000 9 (sv k)).run Tryd.prog w = .ok () w := MapKept.run_checkKey Tryd.underlying9 (isKey_sv k) _ 9999
  have hf := MapKept.run_findKey (P := Tryd.prog) (w := w) Tryd.underlying9 h1
  cases hl : lookA at_ k with
  | none =>
    rw [hl] at h2
    subst h2
    simp [execOp, he x _ hx, he y _ hy, Instr.lookup, run_underlying u91, MapKept.run_getObj_map hb, hc, hf]
  | some p =>
    rw [hl] at h2
    obtain ⟨j, rfl⟩ := h2
    simp [execOp, he x _ hx, he y _ hy, Instr.lookup, run_underlying u91, MapKept.run_getObj_map hb, hc, hf]
theorem OP.mapUpdate {n : Nat} {Q : Exit → Act → World → Prop} {M : Env → World → Prop} {t : TypeId} {pos : String} {af : Array Edge} {p : Nat} (hx : ev l x = some (.map (some mb))) (hy : ev l y = some (sv k)) (hz : ev l z = some (.int .i64 (p : Nat))) (hM : WMap w mb at_) (hno : lookA at_ k = none) (hp : p < 16384)
    (h : ∀ w', Chg (fun j => j = mb) w w' → w'.heap.size = w.heap.size → WMap w' mb (at_ ++ [(k, p)]) → M l w') :
    OP Tryd.prog Q ⟨none, .mapUpdate 91 x y z, t, pos, af, none⟩ n l w M := by
  obtain ⟨hlt, es, clock, hb, hes⟩ := hM
  obtain ⟨q, h1, h2⟩ := findNow_at es.toList at_ k 0 hes
  rw [hno] at h2
  subst h2
  have hc : (Instr.checkKey false 10000 9 (sv k)).run Tryd.prog w = .ok () w := MapKept.run_checkKey Tryd.underlying9 (isKey_sv k) _ 9999
  have hf := MapKept.run_findKey (P := Tryd.prog) (w := w) Tryd.underlying9 h1
  have hset := MapKept.heap_set (o' := Obj.map (es.push { key := sv k, val := .int .i64 (p : Nat), born := clock }) (clock + 1)) hb
  refine OP.unit (w' := { w with heap := w.heap.setIfInBounds mb (.map (es.push { key := sv k, val := .int .i64 (p : Nat), born := clock }) (clock + 1)) }) (fun r _ _ _ _ _ he => ?_) (h _ ?_ (by simp) ?_)
  · simp [execOp, he x _ hx, he y _ hy, he z _ hz, Instr.mapUpdate, run_underlying u91, MapKept.run_getObj_map hb, hc, hf, MapKept.run_setObj_map _ hb]
  · exact ⟨rfl, rfl, rfl, by simp, fun j hj hn => hset.2 j hn⟩
  · refine ⟨fun e he => ?_, _, _, hset.1, by simp [hes]⟩
    rcases List.mem_append.1 he with h3 | h3
    · exact hlt e h3
    · rw [List.mem_singleton.1 h3]; exact hp
end

/-- What a name's labels lay behind the bytes that stand already. -/
def wrLabels : List (List UInt8) → List UInt8 → At → List UInt8 × At
  | [], b, at_ => (b ++ [0], at_)
  | x :: xs, b, at_ => match lookA at_ (joinL (x :: xs)) with
    | some p => (b ++ beN 2 ((49152 ||| p : Nat) : Int), at_)
    | none => wrLabels xs (b ++ [byteOf (x.length : Nat)] ++ x) (if b.length < 16384 then at_ ++ [(joinL (x :: xs), b.length)] else at_)
def wrName (s : List UInt8) (st : List UInt8 × At) : List UInt8 × At := wrLabels (splitL s) st.1 st.2
/-- How long labels are, with their lengths. -/
def wlen : List (List UInt8) → Nat
  | [] => 0
  | x :: xs => x.length + 1 + wlen xs
theorem wlen_joinL : ∀ l : List (List UInt8), (joinL l).length ≤ wlen l
  | [] => by simp [joinL]
  | [x] => by simp [joinL, wlen]
  | x :: y :: r => by
    have := wlen_joinL (y :: r)
    simp only [joinL, wlen, List.length_append, List.length_cons] at this ⊢
    omega
theorem wlen_ph (a : List UInt8) {l : List (List UInt8)} (h : l ≠ []) : wlen (ph a l) = a.length + wlen l := by
  cases l with
  | nil => exact absurd rfl h
  | cons x xs => simp [ph, wlen]; omega
theorem wlen_split (s : List UInt8) : wlen (splitL s) = s.length + 1 := by
  induction s with
  | nil => rfl
  | cons c r ih =>
    by_cases e : c = 46
    · subst e; rw [splitL_dot]; simp [wlen, ih]; omega
    · rw [splitL_sign e, wlen_ph _ (splitL_ne r), ih]; simp; omega
theorem wlen_drop {ls : List (List UInt8)} {i : Nat} {x : List UInt8} (h : ls[i]? = some x) : wlen (ls.drop i) = x.length + 1 + wlen (ls.drop (i + 1)) := by
  have hlt := (List.getElem?_eq_some_iff.1 h).1
  have hv := (List.getElem?_eq_some_iff.1 h).2
  rw [List.drop_eq_getElem_cons hlt, hv]; rfl
theorem wr_drop {ls : List (List UInt8)} {i : Nat} {x b : List UInt8} {at_ : At} (h : ls[i]? = some x) : wrLabels (ls.drop i) b at_ = match lookA at_ (joinL (ls.drop i)) with
    | some p => (b ++ beN 2 ((49152 ||| p : Nat) : Int), at_)
    | none => wrLabels (ls.drop (i + 1)) (b ++ [byteOf (x.length : Nat)] ++ x) (if b.length < 16384 then at_ ++ [(joinL (ls.drop i), b.length)] else at_) := by
  have hlt := (List.getElem?_eq_some_iff.1 h).1
  have hv := (List.getElem?_eq_some_iff.1 h).2
  rw [List.drop_eq_getElem_cons hlt, hv]; rfl

/-- The writer in memory. -/
def WSt (w : World) (wb mb base : Nat) (v : Value) (st : List UInt8 × At) : Prop := w.heap[wb]? = some (.cells #[v, .map (some mb)] 93 (0, 0)) ∧ Buf w base v st.1 ∧ WMap w mb st.2
theorem Buf.one {w : World} {base : Nat} {v : Value} {bs : List UInt8} (h : Buf w base v bs) : v.oneCell' = true ∧ v.cells = #[v] := by
  obtain ⟨a, c, rfl⟩ := h.slice
  exact ⟨rfl, rfl⟩

theorem binOp_orN (t : TypeId) (a b : Nat) (ha : a < 4294967296) (hb : b < 4294967296) : binOp .or t (.int .i64 (a : Int)) (.int .i64 (b : Int)) = pure (.int .i64 ((a ||| b : Nat) : Int)) := by
  simp only [binOp, Op.intBits, ne_eq, not_true, ite_false]
  have hbv : ∀ k : Nat, k < 18446744073709551616 → (BitVec.ofInt IntKind.i64.bits (k : Int)).toNat = k := by
    intro k hk
    show (BitVec.ofInt 64 (k : Int)).toNat = k
    simp; omega
  have e : (BitVec.ofInt IntKind.i64.bits (a : Int) ||| BitVec.ofInt IntKind.i64.bits (b : Int)).toNat = a ||| b := by
    rw [BitVec.toNat_or, hbv _ (by omega), hbv _ (by omega)]
  have hle : a ||| b < 2 ^ 32 := Nat.or_lt_two_pow (by omega) (by omega)
  rw [e, IntWalk.i64_in _ (by omega)]
theorem R.orN {l : Env} {w : World} {x y : Operand} {t ty : TypeId} {P : Program} {a b : Nat} (hx : ev l x = some (.int .i64 (a : Int))) (hy : ev l y = some (.int .i64 (b : Int))) (ha : a < 4294967296) (hb : b < 4294967296) : Runs P l (.binOp .or t x y ty) w (.int .i64 ((a ||| b : Nat) : Int)) w :=
  R.bin hx hy (binOp_orN t a b ha hb)
end Go.Proofs.YthcpjcgjmdfpjaaDoor

namespace Go.Proofs.YthcpjcgjmdfpjaaDoor
open Go Go.RowKit

theorem beN_take (x : Int) : ∀ (n j : Nat), j < n → (beN n x).take (j + 1) = (beN n x).take j ++ [byteOf (x / 2 ^ (8 * (n - 1 - j)))]
  | 0, j, h => by omega
  | n + 1, 0, h => by simp [beN]
  | n + 1, j + 1, h => by
    have := beN_take x n j (by omega)
    simp only [beN, List.take_succ_cons, List.cons_append] at this ⊢
    rw [this, show n + 1 - 1 - (j + 1) = n - 1 - j by omega]

set_option maxRecDepth 100000 in
theorem put_any (base : Nat) (v : Value) (bs : List UInt8) (n : Nat) (x : Int) (w : World) (hn : n ≤ 8) (hB : Buf w base v bs) (hb : base ≤ w.heap.size) (hl : bs.length ≤ 1099511627776) :
    Calls Tryd.prog 42 #[v, .int .i64 n, .int .i64 x] w fun e w' => ∃ v', e = .returned v' ∧ Buf w' base v' (bs ++ beN n x) ∧ Moved w w' v v' := by
  refine calls_cw (args := [v, .int .i64 n, .int .i64 x]) Tryd.func42 rfl rfl ?_
  show CW _ _ _ 23 [(0, v), (1, .int .i64 n), (2, .int .i64 x)] w
  refine CW.rseq ?_
  refine WL.op (by decide) (R.assign rfl) ?_
  refine WL.next ?_
  refine CW.seq ?_
  refine CW.rseq ?_
  refine WL.op (by decide) (R.move rfl) ?_
  refine WL.op (by decide) (R.sub rfl rfl (by omega)) ?_
  refine WL.op (by decide) (R.assign rfl) ?_
  refine WL.next ?_
  refine CW.block ?_
  refine CW.loopK [0, 2, 7] (fun m l wr => ∃ (j : Nat) (s : Value) (i : Int), j + m = n ∧ i = (n : Int) - 1 - j ∧ l = [(0, s), (2, .int .i64 x), (7, .int .i64 i)] ∧ Buf wr base s (bs ++ (beN n x).take j) ∧ Moved w wr v s) n ?_ ?_
  · exact ⟨0, v, _, by omega, by simp, rfl, by simpa using hB, Moved.refl _ _⟩
  · rintro m l wr ⟨j, s, i, hm, hi, rfl, hB', hM⟩
    have hbw : base ≤ wr.heap.size := Nat.le_trans hb hM.g.size
    refine CW.seq ?_
    refine CW.rseq ?_
    refine WL.op (by decide) (R.move rfl) ?_
    by_cases hlt : j < n
    · refine WL.op (by decide) (R.geq rfl rfl (c := true) (decide_eq_true (by omega))) ?_
      refine WL.next ?_
      refine CW.condT rfl ?_
      refine CW.skip ?_
      refine EW.next ?_
      refine CW.seq ?_
      refine CW.block ?_
      refine CW.region ?_
      refine WL.op (by decide) (R.move rfl) ?_
      refine WL.op (by decide) (R.move rfl) ?_
      refine WL.op (by decide) (R.move rfl) ?_
      refine WL.op (by decide) (R.mul rfl rfl (by omega)) ?_
      refine WL.op (by decide) (R.shr rfl rfl (by omega)) ?_
      refine WL.op (by decide) (R.conv35 rfl) ?_
      refine WL.eff rfl (OP.buildSlice1 (by decide) rfl ?_)
      intro w1 hc1 hs1 hb1
      have hB1 : Buf w1 base s (bs ++ (beN n x).take j) := hB'.kept hc1 (fun _ _ h => h)
      refine WL.eff rfl (OP.appendByte (by decide) rfl rfl hB1 hb1 (by simp; omega) (by omega) ?_)
      intro s' w2 hB2 hM2
      refine WL.op (by decide) (R.assign rfl) ?_
      refine WL.nil ?_
      refine EW.inNormal ?_
      refine EW.next ?_
      refine CW.region ?_
      refine WL.op (by decide) (R.move rfl) ?_
      refine WL.op (by decide) (R.sub rfl rfl (by omega)) ?_
      refine WL.op (by decide) (R.assign rfl) ?_
      refine WL.nil ?_
      refine EW.roundK [0, 2, 7] (m - 1) (by omega) ⟨j + 1, s', _, by omega, ?_, rfl, ?_, ?_⟩
      · omega
      · rw [beN_take x n j hlt, ← List.append_assoc]
        rw [show (8 * i).toNat = 8 * (n - 1 - j) by omega] at hB2
        exact hB2
      · exact (hM.trans ⟨hc1.own, .inl rfl⟩).trans hM2
    · refine WL.op (by decide) (R.geq rfl rfl (c := false) (decide_eq_false (by omega))) ?_
      refine WL.next ?_
      refine CW.condF rfl ?_
      refine CW.exit ?_
      refine EW.thenExit ?_
      refine EW.thenExit ?_
      refine EW.inHere ?_
      refine EW.next ?_
      refine CW.rseq ?_
      refine WL.op (by decide) (R.move rfl) ?_
      refine WL.op (by decide) (R.assign rfl) ?_
      refine WL.next ?_
      refine CW.ret ?_
      refine EW.ret1 (.inl rfl) rfl rfl ⟨s, rfl, ?_, hM⟩
      have : j = n := by omega
      subst this
      rwa [List.take_of_length_le (by rw [beN_length]; omega)] at hB'
end Go.Proofs.YthcpjcgjmdfpjaaDoor

namespace Go.Proofs.YthcpjcgjmdfpjaaDoor
open Go Go.RowKit
set_option maxRecDepth 100000
set_option maxHeartbeats 4000000

theorem own_back {v v0 : Value} {N k : Nat} (hown : v.ownBlock = v0.ownBlock ∨ ∃ q, v.ownBlock = some q ∧ N ≤ q) (e : some k = v.ownBlock) (hk : k < N) : some k = v0.ownBlock := by
  rcases hown with h | ⟨q, h1, h2⟩
  · rw [← h]; exact e
  · rw [h1] at e; injection e with e; omega
theorem own_next {w1 w2 : World} {v v0 v2 : Value} {N : Nat} (hown : v.ownBlock = v0.ownBlock ∨ ∃ q, v.ownBlock = some q ∧ N ≤ q) (hM : Moved w1 w2 v v2) (hz : N ≤ w1.heap.size) : v2.ownBlock = v0.ownBlock ∨ ∃ q, v2.ownBlock = some q ∧ N ≤ q := by
  rcases hM.at_ with h | ⟨q, h1, h2⟩
  · rw [h]; exact hown
  · exact .inr ⟨q, h1, by omega⟩
theorem wname_any (wb mb base : Nat) (v0 : Value) (st : List UInt8 × At) (s : List UInt8) (w : World) (hW0 : WSt w wb mb base v0 st) (h1 : wb < base) (h2 : mb < base) (h3 : wb ≠ mb) (hbase : base ≤ w.heap.size) (hbl0 : st.1.length ≤ 1073741824) (hsl : s.length ≤ 1073741824) :
    Calls Tryd.prog 43 #[.pointer (some ⟨wb, 0, none⟩), sv s] w fun e w' => e = .returned (.tuple #[]) ∧ ∃ v', WSt w' wb mb base v' (wrName s st) ∧ Chg (fun k => k = wb ∨ k = mb ∨ some k = v0.ownBlock) w w' ∧ (v'.ownBlock = v0.ownBlock ∨ ∃ q, v'.ownBlock = some q ∧ w.heap.size ≤ q) := by
  obtain ⟨hW, hB, hM⟩ := hW0
  have hB0 := hB
  refine calls_cw (args := [.pointer (some ⟨wb, 0, none⟩), sv s]) Tryd.func43 rfl rfl ?_
  show CW _ _ _ 86 [(0, .pointer (some ⟨wb, 0, none⟩)), (1, sv s)] w
  refine CW.rseq ?_
  refine WL.op (by decide) (R.move rfl) ?_
  refine WL.eff rfl (OP.call (by decide) Tryd.func39 (by kernel_rfl) (by kernel_rfl) rfl (split_any s _ (by omega)) ?_)
  rintro ed w1 ⟨vl, rfl, hSB, hc1⟩
  refine ⟨_, rfl, ?_⟩
  rcases hSB.open with ⟨_, h0⟩ | ⟨gl, cap, rfl, hgl1, hgl2, hlc, hcell⟩
  · exact absurd h0 (splitL_ne s)
  have hnl := splitL_length s
  have hwl := wlen_split s
  have hW := hc1.at hW (fun h => h)
  have hB := hB.kept hc1 (fun _ _ h => h)
  have hM := hM.kept hc1 (fun h => h)
  have hC : Chg (fun k => k = wb ∨ k = mb ∨ some k = v0.ownBlock) w w1 := hc1.mono (fun _ _ h => h.elim)
  have hz := hc1.size
  refine WL.op (by decide) (R.assign rfl) ?_
  refine WL.next ?_
  refine CW.seq ?_
  refine CW.rseq ?_
  refine WL.op (by decide) (R.move rfl) ?_
  refine WL.op (by decide) (R.lenSlice rfl Tryd.underlying80 rfl) ?_
  refine WL.op (by decide) (R.move rfl) ?_
  refine WL.next ?_
  refine CW.block ?_
  refine CW.loopK [0, 4, 12, 13] (fun k l wr => ∃ (i : Nat) (ii : Int) (v : Value) (b : List UInt8) (at_ : At), i + k = (splitL s).length ∧ ii = (i : Int) ∧ l = [(0, .pointer (some ⟨wb, 0, none⟩)), (4, .slice (some ⟨gl, 0, none⟩) (splitL s).length cap), (12, .int .i64 (splitL s).length), (13, .int .i64 ii)] ∧ wr.heap[wb]? = some (.cells #[v, .map (some mb)] 93 (0, 0)) ∧ Buf wr base v b ∧ WMap wr mb at_ ∧ Chg (fun k => k = wb ∨ k = mb ∨ some k = v0.ownBlock) w wr ∧ (∀ (j : Nat) (x : List UInt8), (splitL s)[j]? = some x → wr.cell? ⟨gl, j, none⟩ = some (sv x)) ∧ (∀ k, v.ownBlock = some k → k ≠ gl) ∧ (v.ownBlock = v0.ownBlock ∨ ∃ q, v.ownBlock = some q ∧ w.heap.size ≤ q) ∧ gl < wr.heap.size ∧ b.length + wlen ((splitL s).drop i) ≤ st.1.length + s.length + 1 ∧ wrLabels (splitL s) st.1 st.2 = wrLabels ((splitL s).drop i) b at_) ((splitL s).length) ?_ ?_
  · exact ⟨0, _, _, _, _, by omega, rfl, rfl, hW, hB, hM, hC, hcell, fun k hk e => by have := hB0.lt k hk; omega, .inl rfl, hgl2, by simp; omega, rfl⟩
  · rintro k l wr ⟨i, ii, v, b, at_, hik, rfl, rfl, hW, hB, hM, hC, hcell, hne, hown, hgl3, hbl, hE⟩
    refine CW.rseq ?_
    refine WL.lssS (by decide) rfl rfl (fun h1 => ?_) (fun h1 => ?_)
    · skip
      refine WL.next ?_
      refine CW.seq ?_
      refine CW.condT rfl ?_
      refine CW.skip ?_
      refine EW.next ?_
      refine CW.seq ?_
      refine CW.block ?_
      refine CW.rseq ?_
      have hlt : i < (splitL s).length := by omega
      obtain ⟨x, hx⟩ : ∃ x, (splitL s)[i]? = some x := ⟨(splitL s)[i], List.getElem?_eq_getElem hlt⟩
      have hxl := splitL_label hx
      have hjl := wlen_joinL ((splitL s).drop i)
      obtain ⟨ab, cb, rfl⟩ := hB.slice
      refine WL.op (by decide) (R.move rfl) ?_
      refine WL.op (by decide) (R.assign rfl) ?_
      refine WL.next ?_
      refine CW.rseq ?_
      refine WL.op (by decide) (R.move rfl) ?_
      refine WL.op (by decide) (R.move rfl) ?_
      refine WL.op (by decide) (R.sliceLo Tryd.underlying80 sz9 rfl rfl rfl hlt hlc) ?_
      rw [← List.length_drop]
      refine WL.eff rfl (OP.call (by decide) Tryd.func52 (by kernel_rfl) (by kernel_rfl) rfl (join_any _ _ ((splitL s).drop i) wr (fun j q hj => ⟨gl, 0 + i, rfl, by rw [List.getElem?_drop] at hj; rw [Nat.zero_add]; exact hcell (i + j) q hj⟩) (by omega) (by rw [List.length_drop]; omega)) ?_)
      rintro ed _ ⟨rfl, rfl⟩
      refine ⟨_, rfl, ?_⟩
      refine WL.op (by decide) (R.assign rfl) ?_
      refine WL.next ?_
      refine CW.seq ?_
      refine CW.rseq ?_
      refine WL.op (by decide) (R.move rfl) ?_
      refine WL.op (by decide) (R.nilCheck rfl) ?_
      refine WL.op (by decide) (FA93_1 rfl) ?_
      refine WL.op (by decide) (R.load Tryd.underlying91 rfl rfl (cell_at hW rfl)) ?_
      refine WL.op (by decide) (R.move rfl) ?_
      refine WL.op (by decide) (R.lookup rfl rfl hM) ?_
      rcases hlk : lookA at_ (joinL ((splitL s).drop i)) with _ | p
      · skip
        refine WL.op (by decide) (R.move rfl) ?_
        refine WL.op (by decide) (R.extract rfl rfl) ?_
        refine WL.op (by decide) (R.extract rfl rfl) ?_
        refine WL.op (by decide) (R.assign rfl) ?_
        refine WL.op (by decide) (R.assign rfl) ?_
        refine WL.next ?_
        refine CW.rseq ?_
        refine WL.op (by decide) (R.move rfl) ?_
        refine WL.next ?_
        refine CW.condF rfl ?_
        refine CW.skip ?_
        refine EW.next ?_
        refine CW.seq ?_
        refine CW.rseq ?_
        refine WL.op (by decide) (R.move rfl) ?_
        refine WL.op (by decide) (R.nilCheck rfl) ?_
        refine WL.op (by decide) (FA93_0 rfl) ?_
        refine WL.op (by decide) (R.load Tryd.underlying36 rfl rfl (cell_at hW rfl)) ?_
        refine WL.op (by decide) (R.lenSlice rfl Tryd.underlying36 rfl) ?_
        by_cases hlt4 : b.length < 16384
        · skip
          refine WL.op (by decide) (R.lss rfl rfl (decide_eq_true (by omega))) ?_
          refine WL.next ?_
          refine CW.condT rfl ?_
          refine CW.draw (fun w => w.heap[wb]? = some (.cells #[.slice ab b.length cb, .map (some mb)] 93 (0, 0))) (by kernel_rfl) ?_
          have hC := hC.trans (Chg.drew _ _)
          have hM := hM.kept (Chg.drew (fun _ => False) _) (fun h => h)
          refine AH.take 0 rfl (by kernel_rfl) (by kernel_rfl) (by kernel_rfl) (fun _ _ _ _ h => h) hW (by decide) (fun w hS => R.move rfl) ?_
          refine AH.take 1 rfl (by kernel_rfl) (by kernel_rfl) (by kernel_rfl) (fun _ _ _ _ h => h) hW (by decide) (fun w hS => R.nilCheck rfl) ?_
          refine AH.take 2 rfl (by kernel_rfl) (by kernel_rfl) (by kernel_rfl) (fun _ _ _ _ h => h) hW (by decide) (fun w hS => FA93_1 rfl) ?_
          refine AH.take 3 rfl (by kernel_rfl) (by kernel_rfl) (by kernel_rfl) (fun _ _ _ _ h => h) hW (by decide) (fun w hS => R.load Tryd.underlying91 rfl rfl (cell_at hS rfl)) ?_
          refine AH.take 4 rfl (by kernel_rfl) (by kernel_rfl) (by kernel_rfl) (fun _ _ _ _ h => h) hW (by decide) (fun w hS => R.move rfl) ?_
          refine AH.take 5 rfl (by kernel_rfl) (by kernel_rfl) (by kernel_rfl) (fun _ _ _ _ h => h) hW (by decide) (fun w hS => R.move rfl) ?_
          refine AH.take 6 rfl (by kernel_rfl) (by kernel_rfl) (by kernel_rfl) (fun _ _ _ _ h => h) hW (by decide) (fun w hS => R.nilCheck rfl) ?_
          refine AH.take 7 rfl (by kernel_rfl) (by kernel_rfl) (by kernel_rfl) (fun _ _ _ _ h => h) hW (by decide) (fun w hS => FA93_0 rfl) ?_
          refine AH.take 8 rfl (by kernel_rfl) (by kernel_rfl) (by kernel_rfl) (fun _ _ _ _ h => h) hW (by decide) (fun w hS => R.load Tryd.underlying36 rfl rfl (cell_at hS rfl)) ?_
          refine AH.take 9 rfl (by kernel_rfl) (by kernel_rfl) (by kernel_rfl) (fun _ _ _ _ h => h) hW (by decide) (fun w hS => R.lenSlice rfl Tryd.underlying36 rfl) ?_
          refine AH.eff 10 (by kernel_rfl) rfl rfl (OP.mapUpdate rfl rfl rfl hM hlk hlt4 ?_)
          intro w9 hc9 hs9 hM
          have hW := hc9.at hW (fun e => by omega)
          refine ⟨hW, ?_⟩
          have hcell : ∀ (j : Nat) (x : List UInt8), (splitL s)[j]? = some x → w9.cell? ⟨gl, j, none⟩ = some (sv x) := fun j x hj => cell_chg hc9 (cell_chg (Chg.drew (fun _ => False) _) (hcell j x hj) (fun h => h)) (fun e => by omega)
          have hB := (hB.kept (Chg.drew (fun _ => False) _) (fun _ _ h => h)).kept hc9 (fun k hk e => by have := hB.lt k hk; omega)
          have hC := hC.then hc9 (fun k hk e => .inr (.inl e))
          have hz := hc9.size
          have hz2 := (Chg.drew (fun _ => False) wr).size
          refine AH.done (by kernel_rfl) ?_
          refine EW.next ?_
          refine CW.draw (fun w => w.cell? ⟨gl, i, none⟩ = some (sv x)) (by kernel_rfl) ?_
          have hC := hC.trans (Chg.drew _ _)
          have hM := hM.kept (Chg.drew (fun _ => False) _) (fun h => h)
          have hB := hB.kept (Chg.drew (fun _ => False) _) (fun _ _ h => h)
          have hz3 := (Chg.drew (fun _ => False) w9).size
          refine AH.take 0 rfl (by kernel_rfl) (by kernel_rfl) (by kernel_rfl) (fun _ _ _ _ h => h) (hcell i x hx) (by decide) (fun w hS => R.move rfl) ?_
          refine AH.take 1 rfl (by kernel_rfl) (by kernel_rfl) (by kernel_rfl) (fun _ _ _ _ h => h) (hcell i x hx) (by decide) (fun w hS => R.move rfl) ?_
          refine AH.take 2 rfl (by kernel_rfl) (by kernel_rfl) (by kernel_rfl) (fun _ _ _ _ h => h) (hcell i x hx) (by decide) (fun w hS => R.nilCheck rfl) ?_
          refine AH.take 3 rfl (by kernel_rfl) (by kernel_rfl) (by kernel_rfl) (fun _ _ _ _ h => h) (hcell i x hx) (by decide) (fun w hS => FA93_0 rfl) ?_
          refine AH.take 5 rfl (by kernel_rfl) (by kernel_rfl) (by kernel_rfl) (fun _ _ _ _ h => h) (hcell i x hx) (by decide) (fun w hS => R.move rfl) ?_
          refine AH.take 6 rfl (by kernel_rfl) (by kernel_rfl) (by kernel_rfl) (fun _ _ _ _ h => h) (hcell i x hx) (by decide) (fun w hS => R.move rfl) ?_
          refine AH.take 7 rfl (by kernel_rfl) (by kernel_rfl) (by kernel_rfl) (fun _ _ _ _ h => h) (hcell i x hx) (by decide) (fun w hS => R.indexAddr1 (i := i) Tryd.underlying80 sz9 rfl rfl rfl hlt) ?_
          refine AH.take 8 rfl (by kernel_rfl) (by kernel_rfl) (by kernel_rfl) (fun _ _ _ _ h => h) (hcell i x hx) (by decide) (fun w hS => R.load Tryd.underlying9 rfl rfl (by rw [Nat.mul_one, Nat.zero_add]; exact hS)) ?_
          refine AH.take 9 rfl (by kernel_rfl) (by kernel_rfl) (by kernel_rfl) (fun _ _ _ _ h => h) (hcell i x hx) (by decide) (fun w hS => R.lenS rfl rfl) ?_
          refine AH.take 10 rfl (by kernel_rfl) (by kernel_rfl) (by kernel_rfl) (fun _ _ _ _ h => h) (hcell i x hx) (by decide) (fun w hS => R.conv35 rfl) ?_
          refine AH.take 13 rfl (by kernel_rfl) (by kernel_rfl) (by kernel_rfl) (fun _ _ _ _ h => h) (hcell i x hx) (by decide) (fun w hS => R.move rfl) ?_
          refine AH.take 14 rfl (by kernel_rfl) (by kernel_rfl) (by kernel_rfl) (fun _ _ _ _ h => h) (hcell i x hx) (by decide) (fun w hS => R.move rfl) ?_
          refine AH.take 15 rfl (by kernel_rfl) (by kernel_rfl) (by kernel_rfl) (fun _ _ _ _ h => h) (hcell i x hx) (by decide) (fun w hS => R.indexAddr1 (i := i) Tryd.underlying80 sz9 rfl rfl rfl hlt) ?_
          refine AH.take 16 rfl (by kernel_rfl) (by kernel_rfl) (by kernel_rfl) (fun _ _ _ _ h => h) (hcell i x hx) (by decide) (fun w hS => R.load Tryd.underlying9 rfl rfl (by rw [Nat.mul_one, Nat.zero_add]; exact hS)) ?_
          refine AH.either 4 11 (by kernel_rfl) rfl rfl rfl rfl ?_ ?_
          · skip
            refine (OP.val (by decide) (R.load Tryd.underlying36 rfl rfl (cell_at hW rfl)) ?_)
            refine ⟨hcell i x hx, ?_⟩
            refine AH.eff 11 (by kernel_rfl) rfl rfl (OP.buildSlice1 (by decide) rfl ?_)
            intro w11 hc11 hs11 hb11
            have hcell : ∀ (j : Nat) (x : List UInt8), (splitL s)[j]? = some x → w11.cell? ⟨gl, j, none⟩ = some (sv x) := fun j x hj => cell_chg hc11 (hcell j x hj) (fun e => by omega)
            have hz := hc11.size
            have hW := hc11.at hW (fun h => h)
            have hM := hM.kept hc11 (fun h => h)
            have hB := hB.kept hc11 (fun _ _ h => h)
            have hC := hC.then hc11 (fun k hk e => e.elim)
            refine ⟨hcell i x hx, ?_⟩
            refine AH.eff 12 (by kernel_rfl) rfl rfl (OP.appendByte (by decide) rfl rfl hB hb11 (by omega) (by omega) ?_)
            intro v2 w12 hB2 hMv
            have hcm := Chg.moved hMv
            have hW := hcm.at hW (fun e => by have := hB.lt _ e.symm; omega)
            have hM := hM.kept hcm (fun e => by have := hB.lt _ e.symm; omega)
            have hcell : ∀ (j : Nat) (x : List UInt8), (splitL s)[j]? = some x → w12.cell? ⟨gl, j, none⟩ = some (sv x) := fun j x hj => cell_chg hcm (hcell j x hj) (fun e => hne _ e.symm rfl)
            have hC := hC.then hcm (fun k hk e => .inr (.inr (own_back hown e hk)))
            have hown := own_next hown hMv (by omega)
            have hz := hcm.size
            have hne : ∀ k, v2.ownBlock = some k → k ≠ gl := fun k hk e => by
              rcases hMv.at_ with h | ⟨q, h1, h2⟩
              · exact hne k (h ▸ hk) e
              · rw [h1] at hk; injection hk with hk; omega
            have hB := hB2
            clear hB2 hMv
            obtain ⟨ab, cb, rfl⟩ := hB.slice
            refine ⟨hcell i x hx, ?_⟩
            refine AH.eff 17 (by kernel_rfl) rfl rfl (OP.appendStr (by decide) rfl rfl hB (by simp; omega) (by omega) ?_)
            intro v2 w17 hB2 hMv
            have hcm := Chg.moved hMv
            have hW := hcm.at hW (fun e => by have := hB.lt _ e.symm; omega)
            have hM := hM.kept hcm (fun e => by have := hB.lt _ e.symm; omega)
            have hcell : ∀ (j : Nat) (x : List UInt8), (splitL s)[j]? = some x → w17.cell? ⟨gl, j, none⟩ = some (sv x) := fun j x hj => cell_chg hcm (hcell j x hj) (fun e => hne _ e.symm rfl)
            have hC := hC.then hcm (fun k hk e => .inr (.inr (own_back hown e hk)))
            have hown := own_next hown hMv (by omega)
            have hz := hcm.size
            have hne : ∀ k, v2.ownBlock = some k → k ≠ gl := fun k hk e => by
              rcases hMv.at_ with h | ⟨q, h1, h2⟩
              · exact hne k (h ▸ hk) e
              · rw [h1] at hk; injection hk with hk; omega
            have hB := hB2
            clear hB2 hMv
            obtain ⟨ab, cb, rfl⟩ := hB.slice
            refine ⟨hcell i x hx, ?_⟩
            refine AH.eff 18 (by kernel_rfl) rfl rfl (OP.val (by decide) (R.nilCheck rfl) ?_)
            refine ⟨hcell i x hx, ?_⟩
            refine AH.eff 19 (by kernel_rfl) rfl rfl (OP.val (by decide) (FA93_0 rfl) ?_)
            refine ⟨hcell i x hx, ?_⟩
            refine AH.eff 20 (by kernel_rfl) rfl rfl (OP.store1 sz36 rfl rfl rfl rfl hW (Nat.le_of_ble_eq_true rfl) rfl ?_)
            intro w20 hc20 hs20 hWn
            have hcell : ∀ (j : Nat) (x : List UInt8), (splitL s)[j]? = some x → w20.cell? ⟨gl, j, none⟩ = some (sv x) := fun j x hj => cell_chg hc20 (hcell j x hj) (fun e => by omega)
            have hz := hc20.size
            have hW : w20.heap[wb]? = some (.cells #[.slice ab (b ++ [byteOf (x.length : Nat)] ++ x).length cb, .map (some mb)] 93 (0, 0)) := hWn
            have hM := hM.kept hc20 (fun e => by omega)
            have hB := hB.kept hc20 (fun k hk e => by have := hB.lt k hk; omega)
            have hC := hC.then hc20 (fun k hk e => .inl e)
            refine ⟨hcell i x hx, ?_⟩
            refine AH.done (by kernel_rfl) ?_
            refine EW.inNormal ?_
            refine EW.next ?_
            refine CW.region ?_
            refine WL.op (by decide) (R.add rfl rfl (by omega)) ?_
            refine WL.op (by decide) (R.move rfl) ?_
            refine WL.nil ?_
            rw [wr_drop hx, hlk] at hE
            simp only [if_pos hlt4] at hE
            exact EW.roundK [0, 4, 12, 13] (k - 1) (by omega) ⟨i + 1, _, _, _, _, by omega, by omega, rfl, hW, hB, hM, hC, hcell, hne, hown, by omega, by have := wlen_drop hx; simp; omega, hE⟩
          · skip
            refine (OP.buildSlice1 (by decide) rfl ?_)
            intro w11 hc11 hs11 hb11
            have hcell : ∀ (j : Nat) (x : List UInt8), (splitL s)[j]? = some x → w11.cell? ⟨gl, j, none⟩ = some (sv x) := fun j x hj => cell_chg hc11 (hcell j x hj) (fun e => by omega)
            have hz := hc11.size
            have hW := hc11.at hW (fun h => h)
            have hM := hM.kept hc11 (fun h => h)
            have hB := hB.kept hc11 (fun _ _ h => h)
            have hC := hC.then hc11 (fun k hk e => e.elim)
            refine ⟨hcell i x hx, ?_⟩
            refine AH.eff 4 (by kernel_rfl) rfl rfl (OP.val (by decide) (R.load Tryd.underlying36 rfl rfl (cell_at hW rfl)) ?_)
            refine ⟨hcell i x hx, ?_⟩
            refine AH.eff 12 (by kernel_rfl) rfl rfl (OP.appendByte (by decide) rfl rfl hB hb11 (by omega) (by omega) ?_)
            intro v2 w12 hB2 hMv
            have hcm := Chg.moved hMv
            have hW := hcm.at hW (fun e => by have := hB.lt _ e.symm; omega)
            have hM := hM.kept hcm (fun e => by have := hB.lt _ e.symm; omega)
            have hcell : ∀ (j : Nat) (x : List UInt8), (splitL s)[j]? = some x → w12.cell? ⟨gl, j, none⟩ = some (sv x) := fun j x hj => cell_chg hcm (hcell j x hj) (fun e => hne _ e.symm rfl)
            have hC := hC.then hcm (fun k hk e => .inr (.inr (own_back hown e hk)))
            have hown := own_next hown hMv (by omega)
            have hz := hcm.size
            have hne : ∀ k, v2.ownBlock = some k → k ≠ gl := fun k hk e => by
              rcases hMv.at_ with h | ⟨q, h1, h2⟩
              · exact hne k (h ▸ hk) e
              · rw [h1] at hk; injection hk with hk; omega
            have hB := hB2
            clear hB2 hMv
            obtain ⟨ab, cb, rfl⟩ := hB.slice
            refine ⟨hcell i x hx, ?_⟩
            refine AH.eff 17 (by kernel_rfl) rfl rfl (OP.appendStr (by decide) rfl rfl hB (by simp; omega) (by omega) ?_)
            intro v2 w17 hB2 hMv
            have hcm := Chg.moved hMv
            have hW := hcm.at hW (fun e => by have := hB.lt _ e.symm; omega)
            have hM := hM.kept hcm (fun e => by have := hB.lt _ e.symm; omega)
            have hcell : ∀ (j : Nat) (x : List UInt8), (splitL s)[j]? = some x → w17.cell? ⟨gl, j, none⟩ = some (sv x) := fun j x hj => cell_chg hcm (hcell j x hj) (fun e => hne _ e.symm rfl)
            have hC := hC.then hcm (fun k hk e => .inr (.inr (own_back hown e hk)))
            have hown := own_next hown hMv (by omega)
            have hz := hcm.size
            have hne : ∀ k, v2.ownBlock = some k → k ≠ gl := fun k hk e => by
              rcases hMv.at_ with h | ⟨q, h1, h2⟩
              · exact hne k (h ▸ hk) e
              · rw [h1] at hk; injection hk with hk; omega
            have hB := hB2
            clear hB2 hMv
            obtain ⟨ab, cb, rfl⟩ := hB.slice
            refine ⟨hcell i x hx, ?_⟩
            refine AH.eff 18 (by kernel_rfl) rfl rfl (OP.val (by decide) (R.nilCheck rfl) ?_)
            refine ⟨hcell i x hx, ?_⟩
            refine AH.eff 19 (by kernel_rfl) rfl rfl (OP.val (by decide) (FA93_0 rfl) ?_)
            refine ⟨hcell i x hx, ?_⟩
            refine AH.eff 20 (by kernel_rfl) rfl rfl (OP.store1 sz36 rfl rfl rfl rfl hW (Nat.le_of_ble_eq_true rfl) rfl ?_)
            intro w20 hc20 hs20 hWn
            have hcell : ∀ (j : Nat) (x : List UInt8), (splitL s)[j]? = some x → w20.cell? ⟨gl, j, none⟩ = some (sv x) := fun j x hj => cell_chg hc20 (hcell j x hj) (fun e => by omega)
            have hz := hc20.size
            have hW : w20.heap[wb]? = some (.cells #[.slice ab (b ++ [byteOf (x.length : Nat)] ++ x).length cb, .map (some mb)] 93 (0, 0)) := hWn
            have hM := hM.kept hc20 (fun e => by omega)
            have hB := hB.kept hc20 (fun k hk e => by have := hB.lt k hk; omega)
            have hC := hC.then hc20 (fun k hk e => .inl e)
            refine ⟨hcell i x hx, ?_⟩
            refine AH.done (by kernel_rfl) ?_
            refine EW.inNormal ?_
            refine EW.next ?_
            refine CW.region ?_
            refine WL.op (by decide) (R.add rfl rfl (by omega)) ?_
            refine WL.op (by decide) (R.move rfl) ?_
            refine WL.nil ?_
            rw [wr_drop hx, hlk] at hE
            simp only [if_pos hlt4] at hE
            exact EW.roundK [0, 4, 12, 13] (k - 1) (by omega) ⟨i + 1, _, _, _, _, by omega, by omega, rfl, hW, hB, hM, hC, hcell, hne, hown, by omega, by have := wlen_drop hx; simp; omega, hE⟩
        · skip
          refine WL.op (by decide) (R.lss rfl rfl (decide_eq_false (by omega))) ?_
          refine WL.next ?_
          refine CW.condF rfl ?_
          refine CW.skip ?_
          refine EW.next ?_
          refine CW.draw (fun w => w.cell? ⟨gl, i, none⟩ = some (sv x)) (by kernel_rfl) ?_
          have hC := hC.trans (Chg.drew _ _)
          have hM := hM.kept (Chg.drew (fun _ => False) _) (fun h => h)
          have hB := hB.kept (Chg.drew (fun _ => False) _) (fun _ _ h => h)
          have hz3 := (Chg.drew (fun _ => False) wr).size
          refine AH.take 0 rfl (by kernel_rfl) (by kernel_rfl) (by kernel_rfl) (fun _ _ _ _ h => h) (hcell i x hx) (by decide) (fun w hS => R.move rfl) ?_
          refine AH.take 1 rfl (by kernel_rfl) (by kernel_rfl) (by kernel_rfl) (fun _ _ _ _ h => h) (hcell i x hx) (by decide) (fun w hS => R.move rfl) ?_
          refine AH.take 2 rfl (by kernel_rfl) (by kernel_rfl) (by kernel_rfl) (fun _ _ _ _ h => h) (hcell i x hx) (by decide) (fun w hS => R.nilCheck rfl) ?_
          refine AH.take 3 rfl (by kernel_rfl) (by kernel_rfl) (by kernel_rfl) (fun _ _ _ _ h => h) (hcell i x hx) (by decide) (fun w hS => FA93_0 rfl) ?_
          refine AH.take 5 rfl (by kernel_rfl) (by kernel_rfl) (by kernel_rfl) (fun _ _ _ _ h => h) (hcell i x hx) (by decide) (fun w hS => R.move rfl) ?_
          refine AH.take 6 rfl (by kernel_rfl) (by kernel_rfl) (by kernel_rfl) (fun _ _ _ _ h => h) (hcell i x hx) (by decide) (fun w hS => R.move rfl) ?_
          refine AH.take 7 rfl (by kernel_rfl) (by kernel_rfl) (by kernel_rfl) (fun _ _ _ _ h => h) (hcell i x hx) (by decide) (fun w hS => R.indexAddr1 (i := i) Tryd.underlying80 sz9 rfl rfl rfl hlt) ?_
          refine AH.take 8 rfl (by kernel_rfl) (by kernel_rfl) (by kernel_rfl) (fun _ _ _ _ h => h) (hcell i x hx) (by decide) (fun w hS => R.load Tryd.underlying9 rfl rfl (by rw [Nat.mul_one, Nat.zero_add]; exact hS)) ?_
          refine AH.take 9 rfl (by kernel_rfl) (by kernel_rfl) (by kernel_rfl) (fun _ _ _ _ h => h) (hcell i x hx) (by decide) (fun w hS => R.lenS rfl rfl) ?_
          refine AH.take 10 rfl (by kernel_rfl) (by kernel_rfl) (by kernel_rfl) (fun _ _ _ _ h => h) (hcell i x hx) (by decide) (fun w hS => R.conv35 rfl) ?_
          refine AH.take 13 rfl (by kernel_rfl) (by kernel_rfl) (by kernel_rfl) (fun _ _ _ _ h => h) (hcell i x hx) (by decide) (fun w hS => R.move rfl) ?_
          refine AH.take 14 rfl (by kernel_rfl) (by kernel_rfl) (by kernel_rfl) (fun _ _ _ _ h => h) (hcell i x hx) (by decide) (fun w hS => R.move rfl) ?_
          refine AH.take 15 rfl (by kernel_rfl) (by kernel_rfl) (by kernel_rfl) (fun _ _ _ _ h => h) (hcell i x hx) (by decide) (fun w hS => R.indexAddr1 (i := i) Tryd.underlying80 sz9 rfl rfl rfl hlt) ?_
          refine AH.take 16 rfl (by kernel_rfl) (by kernel_rfl) (by kernel_rfl) (fun _ _ _ _ h => h) (hcell i x hx) (by decide) (fun w hS => R.load Tryd.underlying9 rfl rfl (by rw [Nat.mul_one, Nat.zero_add]; exact hS)) ?_
          refine AH.either 4 11 (by kernel_rfl) rfl rfl rfl rfl ?_ ?_
          · skip
            refine (OP.val (by decide) (R.load Tryd.underlying36 rfl rfl (cell_at hW rfl)) ?_)
            refine ⟨hcell i x hx, ?_⟩
            refine AH.eff 11 (by kernel_rfl) rfl rfl (OP.buildSlice1 (by decide) rfl ?_)
            intro w11 hc11 hs11 hb11
            have hcell : ∀ (j : Nat) (x : List UInt8), (splitL s)[j]? = some x → w11.cell? ⟨gl, j, none⟩ = some (sv x) := fun j x hj => cell_chg hc11 (hcell j x hj) (fun e => by omega)
            have hz := hc11.size
            have hW := hc11.at hW (fun h => h)
            have hM := hM.kept hc11 (fun h => h)
            have hB := hB.kept hc11 (fun _ _ h => h)
            have hC := hC.then hc11 (fun k hk e => e.elim)
            refine ⟨hcell i x hx, ?_⟩
            refine AH.eff 12 (by kernel_rfl) rfl rfl (OP.appendByte (by decide) rfl rfl hB hb11 (by omega) (by omega) ?_)
            intro v2 w12 hB2 hMv
            have hcm := Chg.moved hMv
            have hW := hcm.at hW (fun e => by have := hB.lt _ e.symm; omega)
            have hM := hM.kept hcm (fun e => by have := hB.lt _ e.symm; omega)
            have hcell : ∀ (j : Nat) (x : List UInt8), (splitL s)[j]? = some x → w12.cell? ⟨gl, j, none⟩ = some (sv x) := fun j x hj => cell_chg hcm (hcell j x hj) (fun e => hne _ e.symm rfl)
            have hC := hC.then hcm (fun k hk e => .inr (.inr (own_back hown e hk)))
            have hown := own_next hown hMv (by omega)
            have hz := hcm.size
            have hne : ∀ k, v2.ownBlock = some k → k ≠ gl := fun k hk e => by
              rcases hMv.at_ with h | ⟨q, h1, h2⟩
              · exact hne k (h ▸ hk) e
              · rw [h1] at hk; injection hk with hk; omega
            have hB := hB2
            clear hB2 hMv
            obtain ⟨ab, cb, rfl⟩ := hB.slice
            refine ⟨hcell i x hx, ?_⟩
            refine AH.eff 17 (by kernel_rfl) rfl rfl (OP.appendStr (by decide) rfl rfl hB (by simp; omega) (by omega) ?_)
            intro v2 w17 hB2 hMv
            have hcm := Chg.moved hMv
            have hW := hcm.at hW (fun e => by have := hB.lt _ e.symm; omega)
            have hM := hM.kept hcm (fun e => by have := hB.lt _ e.symm; omega)
            have hcell : ∀ (j : Nat) (x : List UInt8), (splitL s)[j]? = some x → w17.cell? ⟨gl, j, none⟩ = some (sv x) := fun j x hj => cell_chg hcm (hcell j x hj) (fun e => hne _ e.symm rfl)
            have hC := hC.then hcm (fun k hk e => .inr (.inr (own_back hown e hk)))
            have hown := own_next hown hMv (by omega)
            have hz := hcm.size
            have hne : ∀ k, v2.ownBlock = some k → k ≠ gl := fun k hk e => by
              rcases hMv.at_ with h | ⟨q, h1, h2⟩
              · exact hne k (h ▸ hk) e
              · rw [h1] at hk; injection hk with hk; omega
            have hB := hB2
            clear hB2 hMv
            obtain ⟨ab, cb, rfl⟩ := hB.slice
            refine ⟨hcell i x hx, ?_⟩
            refine AH.eff 18 (by kernel_rfl) rfl rfl (OP.val (by decide) (R.nilCheck rfl) ?_)
            refine ⟨hcell i x hx, ?_⟩
            refine AH.eff 19 (by kernel_rfl) rfl rfl (OP.val (by decide) (FA93_0 rfl) ?_)
            refine ⟨hcell i x hx, ?_⟩
            refine AH.eff 20 (by kernel_rfl) rfl rfl (OP.store1 sz36 rfl rfl rfl rfl hW (Nat.le_of_ble_eq_true rfl) rfl ?_)
            intro w20 hc20 hs20 hWn
            have hcell : ∀ (j : Nat) (x : List UInt8), (splitL s)[j]? = some x → w20.cell? ⟨gl, j, none⟩ = some (sv x) := fun j x hj => cell_chg hc20 (hcell j x hj) (fun e => by omega)
            have hz := hc20.size
            have hW : w20.heap[wb]? = some (.cells #[.slice ab (b ++ [byteOf (x.length : Nat)] ++ x).length cb, .map (some mb)] 93 (0, 0)) := hWn
            have hM := hM.kept hc20 (fun e => by omega)
            have hB := hB.kept hc20 (fun k hk e => by have := hB.lt k hk; omega)
            have hC := hC.then hc20 (fun k hk e => .inl e)
            refine ⟨hcell i x hx, ?_⟩
            refine AH.done (by kernel_rfl) ?_
            refine EW.inNormal ?_
            refine EW.next ?_
            refine CW.region ?_
            refine WL.op (by decide) (R.add rfl rfl (by omega)) ?_
            refine WL.op (by decide) (R.move rfl) ?_
            refine WL.nil ?_
            rw [wr_drop hx, hlk] at hE
            simp only [if_neg hlt4] at hE
            exact EW.roundK [0, 4, 12, 13] (k - 1) (by omega) ⟨i + 1, _, _, _, _, by omega, by omega, rfl, hW, hB, hM, hC, hcell, hne, hown, by omega, by have := wlen_drop hx; simp; omega, hE⟩
          · skip
            refine (OP.buildSlice1 (by decide) rfl ?_)
            intro w11 hc11 hs11 hb11
            have hcell : ∀ (j : Nat) (x : List UInt8), (splitL s)[j]? = some x → w11.cell? ⟨gl, j, none⟩ = some (sv x) := fun j x hj => cell_chg hc11 (hcell j x hj) (fun e => by omega)
            have hz := hc11.size
            have hW := hc11.at hW (fun h => h)
            have hM := hM.kept hc11 (fun h => h)
            have hB := hB.kept hc11 (fun _ _ h => h)
            have hC := hC.then hc11 (fun k hk e => e.elim)
            refine ⟨hcell i x hx, ?_⟩
            refine AH.eff 4 (by kernel_rfl) rfl rfl (OP.val (by decide) (R.load Tryd.underlying36 rfl rfl (cell_at hW rfl)) ?_)
            refine ⟨hcell i x hx, ?_⟩
            refine AH.eff 12 (by kernel_rfl) rfl rfl (OP.appendByte (by decide) rfl rfl hB hb11 (by omega) (by omega) ?_)
            intro v2 w12 hB2 hMv
            have hcm := Chg.moved hMv
            have hW := hcm.at hW (fun e => by have := hB.lt _ e.symm; omega)
            have hM := hM.kept hcm (fun e => by have := hB.lt _ e.symm; omega)
            have hcell : ∀ (j : Nat) (x : List UInt8), (splitL s)[j]? = some x → w12.cell? ⟨gl, j, none⟩ = some (sv x) := fun j x hj => cell_chg hcm (hcell j x hj) (fun e => hne _ e.symm rfl)
            have hC := hC.then hcm (fun k hk e => .inr (.inr (own_back hown e hk)))
            have hown := own_next hown hMv (by omega)
            have hz := hcm.size
            have hne : ∀ k, v2.ownBlock = some k → k ≠ gl := fun k hk e => by
              rcases hMv.at_ with h | ⟨q, h1, h2⟩
              · exact hne k (h ▸ hk) e
              · rw [h1] at hk; injection hk with hk; omega
            have hB := hB2
            clear hB2 hMv
            obtain ⟨ab, cb, rfl⟩ := hB.slice
            refine ⟨hcell i x hx, ?_⟩
            refine AH.eff 17 (by kernel_rfl) rfl rfl (OP.appendStr (by decide) rfl rfl hB (by simp; omega) (by omega) ?_)
            intro v2 w17 hB2 hMv
            have hcm := Chg.moved hMv
            have hW := hcm.at hW (fun e => by have := hB.lt _ e.symm; omega)
            have hM := hM.kept hcm (fun e => by have := hB.lt _ e.symm; omega)
            have hcell : ∀ (j : Nat) (x : List UInt8), (splitL s)[j]? = some x → w17.cell? ⟨gl, j, none⟩ = some (sv x) := fun j x hj => cell_chg hcm (hcell j x hj) (fun e => hne _ e.symm rfl)
            have hC := hC.then hcm (fun k hk e => .inr (.inr (own_back hown e hk)))
            have hown := own_next hown hMv (by omega)
            have hz := hcm.size
            have hne : ∀ k, v2.ownBlock = some k → k ≠ gl := fun k hk e => by
              rcases hMv.at_ with h | ⟨q, h1, h2⟩
              · exact hne k (h ▸ hk) e
              · rw [h1] at hk; injection hk with hk; omega
            have hB := hB2
            clear hB2 hMv
            obtain ⟨ab, cb, rfl⟩ := hB.slice
            refine ⟨hcell i x hx, ?_⟩
            refine AH.eff 18 (by kernel_rfl) rfl rfl (OP.val (by decide) (R.nilCheck rfl) ?_)
            refine ⟨hcell i x hx, ?_⟩
            refine AH.eff 19 (by kernel_rfl) rfl rfl (OP.val (by decide) (FA93_0 rfl) ?_)
            refine ⟨hcell i x hx, ?_⟩
            refine AH.eff 20 (by kernel_rfl) rfl rfl (OP.store1 sz36 rfl rfl rfl rfl hW (Nat.le_of_ble_eq_true rfl) rfl ?_)
            intro w20 hc20 hs20 hWn
            have hcell : ∀ (j : Nat) (x : List UInt8), (splitL s)[j]? = some x → w20.cell? ⟨gl, j, none⟩ = some (sv x) := fun j x hj => cell_chg hc20 (hcell j x hj) (fun e => by omega)
            have hz := hc20.size
            have hW : w20.heap[wb]? = some (.cells #[.slice ab (b ++ [byteOf (x.length : Nat)] ++ x).length cb, .map (some mb)] 93 (0, 0)) := hWn
            have hM := hM.kept hc20 (fun e => by omega)
            have hB := hB.kept hc20 (fun k hk e => by have := hB.lt k hk; omega)
            have hC := hC.then hc20 (fun k hk e => .inl e)
            refine ⟨hcell i x hx, ?_⟩
            refine AH.done (by kernel_rfl) ?_
            refine EW.inNormal ?_
            refine EW.next ?_
            refine CW.region ?_
            refine WL.op (by decide) (R.add rfl rfl (by omega)) ?_
            refine WL.op (by decide) (R.move rfl) ?_
            refine WL.nil ?_
            rw [wr_drop hx, hlk] at hE
            simp only [if_neg hlt4] at hE
            exact EW.roundK [0, 4, 12, 13] (k - 1) (by omega) ⟨i + 1, _, _, _, _, by omega, by omega, rfl, hW, hB, hM, hC, hcell, hne, hown, by omega, by have := wlen_drop hx; simp; omega, hE⟩
      · skip
        have hp := hM.1 _ (lookA_mem hlk)
        simp only at hp
        refine WL.op (by decide) (R.move rfl) ?_
        refine WL.op (by decide) (R.extract rfl rfl) ?_
        refine WL.op (by decide) (R.extract rfl rfl) ?_
        refine WL.op (by decide) (R.assign rfl) ?_
        refine WL.op (by decide) (R.assign rfl) ?_
        refine WL.next ?_
        refine CW.rseq ?_
        refine WL.op (by decide) (R.move rfl) ?_
        refine WL.next ?_
        refine CW.condT rfl ?_
        refine CW.rseq ?_
        refine WL.op (by decide) (R.move rfl) ?_
        refine WL.op (by decide) (R.move rfl) ?_
        refine WL.op (by decide) (R.nilCheck rfl) ?_
        refine WL.op (by decide) (FA93_0 rfl) ?_
        refine WL.op (by decide) (R.load Tryd.underlying36 rfl rfl (cell_at hW rfl)) ?_
        refine WL.op (by decide) (R.move rfl) ?_
        refine WL.op (by decide) (R.orN (a := 49152) rfl rfl (by decide) (by omega)) ?_
        refine WL.eff rfl (OP.call (by decide) Tryd.func42 (by kernel_rfl) (by kernel_rfl) rfl (put_any base _ b 2 _ wr (by decide) hB (by omega) (by omega)) ?_)
        rintro ed w2 ⟨v2, rfl, hB2, hMv⟩
        refine ⟨_, rfl, ?_⟩
        have hcm := Chg.moved hMv
        have hW := hcm.at hW (fun e => by have := hB.lt _ e.symm; omega)
        have hM := hM.kept hcm (fun e => by have := hB.lt _ e.symm; omega)
        have hC := hC.then hcm (fun k hk e => .inr (.inr (own_back hown e hk)))
        have hown := own_next hown hMv (by omega)
        obtain ⟨ab2, cb2, rfl⟩ := hB2.slice
        refine WL.op (by decide) (R.nilCheck rfl) ?_
        refine WL.op (by decide) (FA93_0 rfl) ?_
        refine WL.eff rfl (OP.store1 sz36 rfl rfl rfl rfl hW (Nat.le_of_ble_eq_true rfl) rfl ?_)
        intro w3 hc3 hs3 hW
        have hM := hM.kept hc3 (fun e => by omega)
        have hB := hB2.kept hc3 (fun k hk e => by have := hB2.lt k hk; omega)
        have hC := hC.then hc3 (fun k hk e => .inl e)
        refine WL.next ?_
        refine CW.ret ?_
        refine EW.thenRet ?_
        refine EW.inRet ?_
        refine EW.thenRet ?_
        refine EW.thenRet ?_
        refine EW.inRet ?_
        refine EW.thenRet ?_
        exact EW.ret0 (.inl rfl) rfl ⟨rfl, _, by rw [wrName, hE, wr_drop hx, hlk]; exact ⟨hW, hB, hM⟩, hC, hown⟩
    · skip
      refine WL.next ?_
      refine CW.seq ?_
      refine CW.condF rfl ?_
      refine CW.exit ?_
      refine EW.thenExit ?_
      refine EW.thenExit ?_
      refine EW.inHere ?_
      refine EW.next ?_
      refine CW.region ?_
      refine WL.op (by decide) (R.move rfl) ?_
      refine WL.op (by decide) (R.move rfl) ?_
      refine WL.op (by decide) (R.nilCheck rfl) ?_
      refine WL.op (by decide) (FA93_0 rfl) ?_
      refine WL.op (by decide) (R.load Tryd.underlying36 rfl rfl (cell_at hW rfl)) ?_
      obtain ⟨ab, cb, rfl⟩ := hB.slice
      refine WL.eff rfl (OP.buildSlice1 (c := 0) (by decide) rfl ?_)
      intro w11 hc11 hs11 hb11
      have hz := hc11.size
      have hW := hc11.at hW (fun h => h)
      have hM := hM.kept hc11 (fun h => h)
      have hB := hB.kept hc11 (fun _ _ h => h)
      have hC := hC.then hc11 (fun k hk e => e.elim)
      refine WL.eff rfl (OP.appendByte (by decide) rfl rfl hB hb11 (by omega) (by omega) ?_)
      intro v2 w12 hB2 hMv
      have hcm := Chg.moved hMv
      have hW := hcm.at hW (fun e => by have := hB.lt _ e.symm; omega)
      have hM := hM.kept hcm (fun e => by have := hB.lt _ e.symm; omega)
      have hcell0 : ∀ (j : Nat) (x : List UInt8), (splitL s)[j]? = some x → w12.cell? ⟨gl, j, none⟩ = some (sv x) := fun j x hj => cell_chg hcm (cell_chg hc11 (hcell j x hj) (fun h => h)) (fun e => hne _ e.symm rfl)
      have hC := hC.then hcm (fun k hk e => .inr (.inr (own_back hown e hk)))
      have hown := own_next hown hMv (by omega)
      have hz := hcm.size
      have hne : ∀ k, v2.ownBlock = some k → k ≠ gl := fun k hk e => by
        rcases hMv.at_ with h | ⟨q, h1, h2⟩
        · exact hne k (h ▸ hk) e
        · rw [h1] at hk; injection hk with hk; omega
      have hB := hB2
      clear hB2 hMv
      obtain ⟨ab, cb, rfl⟩ := hB.slice
      refine WL.op (by decide) (R.nilCheck rfl) ?_
      refine WL.op (by decide) (FA93_0 rfl) ?_
      refine WL.eff rfl (OP.store1 sz36 rfl rfl rfl rfl hW (Nat.le_of_ble_eq_true rfl) rfl ?_)
      intro w3 hc3 hs3 hW
      have hM := hM.kept hc3 (fun e => by omega)
      have hB := hB.kept hc3 (fun k hk e => by have := hB.lt k hk; omega)
      have hC := hC.then hc3 (fun k hk e => .inl e)
      refine WL.nil ?_
      exact EW.ret0 (.inr rfl) rfl ⟨rfl, _, by rw [wrName, hE, List.drop_of_length_le (by omega)]; exact ⟨hW, hB, hM⟩, hC, hown⟩
end Go.Proofs.YthcpjcgjmdfpjaaDoor

namespace Go.Proofs.YthcpjcgjmdfpjaaDoor
open Go Go.RowKit
set_option maxRecDepth 100000
set_option maxHeartbeats 4000000

def wrHead (r : Rec) (b : List UInt8) : List UInt8 := b ++ beN 2 r.type ++ beN 2 1 ++ beN 4 r.ttl
def wrBody (r : Rec) (b : List UInt8) (at_ : At) : List UInt8 × At :=
  if r.type = 1 then (b ++ r.addr.drop 12, at_)
  else if r.type = 28 then (b ++ r.addr, at_)
  else if r.type = 2 ∨ r.type = 5 ∨ r.type = 12 then wrName r.text (b, at_)
  else (b ++ r.data, at_)
/-- The length of what stands behind a place, laid there. -/
def setN (b : List UInt8) (fr : Nat) : List UInt8 := (b.set fr (byteOf (((b.length : Int) - (fr : Int) - 2) / 2 ^ (8 : Int).toNat))).set (fr + 1) (byteOf ((b.length : Int) - (fr : Int) - 2))
/-- What is written of a record. -/
def wrRec (r : Rec) (st : List UInt8 × At) : List UInt8 × At :=
  (setN (wrBody r (wrHead r (wrName r.name st).1 ++ [0, 0]) (wrName r.name st).2).1 (wrHead r (wrName r.name st).1).length, (wrBody r (wrHead r (wrName r.name st).1 ++ [0, 0]) (wrName r.name st).2).2)
theorem wrHead_length (r : Rec) (b : List UInt8) : (wrHead r b).length = b.length + 8 := by simp [wrHead, beN_length]
theorem wrLabels_length : ∀ (ls : List (List UInt8)) (b : List UInt8) (at_ : At), (wrLabels ls b at_).1.length ≤ b.length + wlen ls + 2
  | [], b, at_ => by simp [wrLabels, wlen]
  | x :: xs, b, at_ => by
    unfold wrLabels
    split
    · simp [beN_length]; try omega
    · have := wrLabels_length xs (b ++ [byteOf (x.length : Nat)] ++ x) (if b.length < 16384 then at_ ++ [(joinL (x :: xs), b.length)] else at_)
      simp only [List.length_append, List.length_cons, List.length_nil, wlen] at this ⊢
      omega
theorem wrLabels_ge : ∀ (ls : List (List UInt8)) (b : List UInt8) (at_ : At), b.length ≤ (wrLabels ls b at_).1.length
  | [], b, at_ => by simp [wrLabels]
  | x :: xs, b, at_ => by
    unfold wrLabels
    split
    · simp
    · have := wrLabels_ge xs (b ++ [byteOf (x.length : Nat)] ++ x) (if b.length < 16384 then at_ ++ [(joinL (x :: xs), b.length)] else at_)
      simp only [List.length_append, List.length_cons, List.length_nil] at this ⊢
      omega
theorem wrName_length (s : List UInt8) (st : List UInt8 × At) : st.1.length ≤ (wrName s st).1.length ∧ (wrName s st).1.length ≤ st.1.length + s.length + 3 := by
  have h1 := wrLabels_length (splitL s) st.1 st.2
  have h2 := wrLabels_ge (splitL s) st.1 st.2
  rw [wlen_split] at h1
  exact ⟨h2, by unfold wrName; omega⟩
theorem wrBody_length (r : Rec) (b : List UInt8) (at_ : At) (h16 : r.addr.length = 16) : b.length ≤ (wrBody r b at_).1.length ∧ (wrBody r b at_).1.length ≤ b.length + r.text.length + r.data.length + 16 := by
  unfold wrBody
  have := wrName_length r.text (b, at_)
  simp only at this
  repeat' split
  all_goals first | omega | (simp [h16]; omega) | (simp; omega)
theorem setN_length (b : List UInt8) (fr : Nat) : (setN b fr).length = b.length := by simp [setN]
section
variable {r : Rec} {b : List UInt8} {at_ : At}
theorem body1 (h : r.type = 1) : wrBody r b at_ = (b ++ r.addr.drop 12, at_) := by rw [wrBody, if_pos h]
theorem body2 (h : r.type = 28) : wrBody r b at_ = (b ++ r.addr, at_) := by rw [wrBody, if_neg (by omega), if_pos h]
theorem body3 (h : r.type = 2 ∨ r.type = 5 ∨ r.type = 12) : wrBody r b at_ = ((wrName r.text (b, at_)).1, (wrName r.text (b, at_)).2) := by rw [wrBody, if_neg (by omega), if_neg (by omega), if_pos h]
theorem body4 (h1 : ¬ r.type = 1) (h2 : ¬ r.type = 28) (h : ¬ (r.type = 2 ∨ r.type = 5 ∨ r.type = 12)) : wrBody r b at_ = (b ++ r.data, at_) := by rw [wrBody, if_neg h1, if_neg h2, if_neg h]
end
theorem own_next2 {v v0 v2 : Value} {N K : Nat} (hown : v.ownBlock = v0.ownBlock ∨ ∃ q, v.ownBlock = some q ∧ N ≤ q) (h : v2.ownBlock = v.ownBlock ∨ ∃ q, v2.ownBlock = some q ∧ K ≤ q) (hz : N ≤ K) : v2.ownBlock = v0.ownBlock ∨ ∃ q, v2.ownBlock = some q ∧ N ≤ q := by
  rcases h with h | ⟨q, h1, h2⟩
  · rw [h]; exact hown
  · exact .inr ⟨q, h1, by omega⟩
theorem ne_next {v v2 : Value} {g K : Nat} (hne : ∀ k, v.ownBlock = some k → k ≠ g) (h : v2.ownBlock = v.ownBlock ∨ ∃ q, v2.ownBlock = some q ∧ K ≤ q) (hz : g < K) : ∀ k, v2.ownBlock = some k → k ≠ g := by
  intro k hk e
  rcases h with h | ⟨q, h1, h2⟩
  · exact hne k (h ▸ hk) e
  · rw [h1] at hk; injection hk with hk; omega
theorem buildSlice_00 (w : World) : (Instr.buildSlice 36 2 #[(0, .int .u8 0), (1, .int .u8 0)]).run Tryd.prog w = .ok (.slice (some ⟨w.heap.size, 0, none⟩) 2 2) (w.alloc (.cells #[u8v 0, u8v 0] 5)) := by kernel_rfl
theorem cells_two {w : World} {b : Nat} {x y : UInt8} (hb : w.heap[b]? = some (.cells #[u8v x, u8v y] 5 (0, 0))) : ∀ j u, ([x, y].map u8v)[j]? = some u → w.cell? ((⟨b, 0, none⟩ : Addr).add j) = some u := by
  intro j u hj
  rw [Addr.add_none, Nat.zero_add]
  exact cell_at hb (by rw [List.getElem?_toArray]; exact hj)
theorem addr_cells0 {w : World} {r : Rec} {b : Nat} (hb : w.heap[b]? = some (.cells r.cells.toArray 57 (0, 0))) (_h16 : r.addr.length = 16) : ∀ j u, (r.addr.map u8v)[j]? = some u → w.cell? ((⟨b, 0 + 3 + 0, none⟩ : Addr).add j) = some u := by
  intro j u hj
  rw [Addr.add_none]
  exact cell_at hb (by rw [show 0 + 3 + 0 + j = 3 + j by omega]; exact Rec.atAddr hj)
theorem addr_cells12 {w : World} {r : Rec} {b : Nat} (hb : w.heap[b]? = some (.cells r.cells.toArray 57 (0, 0))) (_h16 : r.addr.length = 16) : ∀ j u, ((r.addr.drop 12).map u8v)[j]? = some u → w.cell? ((⟨b, 0 + 3 + 12, none⟩ : Addr).add j) = some u := by
  intro j u hj
  rw [Addr.add_none]
  refine cell_at hb ?_
  rw [show 0 + 3 + 12 + j = 3 + (12 + j) by omega]
  refine Rec.atAddr ?_
  rw [List.map_drop, List.getElem?_drop] at hj
  exact hj
theorem Buf.addr {w : World} {base : Nat} {A : Option Addr} {m c : Nat} {bs : List UInt8} (h : Buf w base (.slice A m c) bs) (h0 : bs ≠ []) : ∃ g, A = some ⟨g, 0, none⟩ ∧ base ≤ g := by
  obtain ⟨g, cap, he, h1, _⟩ := h.open h0
  injection he with e1 e2 e3
  exact ⟨g, e1, h1⟩
/-- A byte of a buffer set. -/
theorem OP.setB {l : Env} {w : World} {x y : Operand} {t : TypeId} {n : Nat} {Q : Exit → Act → World → Prop} {M : Env → World → Prop} {pos : String} {af : Array Edge} {g base m c j : Nat} {bs : List UInt8} {b : UInt8} {o : Nat} (hB : Buf w base (.slice (some ⟨g, 0, none⟩) m c) bs) (hx : ev l x = some (.pointer (some ⟨g, o, none⟩))) (ho : o = 0 + j * 1) (hy : ev l y = some (u8v b)) (hj : j < bs.length)
    (h : ∀ w', Chg (fun k => k = g) w w' → w'.heap.size = w.heap.size → Buf w' base (.slice (some ⟨g, 0, none⟩) m c) (bs.set j b) → M l w') :
    OP Tryd.prog Q ⟨none, .store 5 x y, t, pos, af, none⟩ n l w M := by
  subst ho
  rcases hB.2 with ⟨h1, _⟩ | ⟨g', cap, cur, h1, hb, hg, hle, hm, hs, ht⟩
  · cases h1
  · injection h1 with e1 e2 e3
    injection e1 with e1
    injection e1 with e1
    subst e1 e2 e3
    have hcs : cur.size = c := by omega
    refine OP.store1 sz5 hx hy rfl rfl hg (by omega) rfl ?_
    intro w' hc hs' hg'
    refine h w' hc hs' ⟨by simp, .inr ⟨g, c, _, by simp, hb, hg', by simpa using hle, hm, by simpa using hs, ?_⟩⟩
    rw [Array.toList_setIfInBounds, List.length_set, List.map_set]
    have ht' : cur.toList.take bs.length = bs.map u8v := by simpa using ht
    rw [show bs.length * 1 = bs.length by omega, show 0 + j * 1 = j by omega, ← ht', List.take_set]

theorem wrec_any (wb mb base : Nat) (v0 : Value) (st : List UInt8 × At) (r : Rec) (w : World) (hW0 : WSt w wb mb base v0 st) (h16 : r.addr.length = 16) (hwb : wb < base) (hmb : mb < base) (hwm : wb ≠ mb) (hbase : base ≤ w.heap.size) (hbl0 : st.1.length ≤ 1000000000) (hs1 : r.name.length ≤ 131072) (hs2 : r.text.length ≤ 131072) (hs3 : r.data.length ≤ 131072) :
    Calls Tryd.prog 44 #[.pointer (some ⟨wb, 0, none⟩), r.val] w fun e w' => e = .returned (.tuple #[]) ∧ ∃ v', WSt w' wb mb base v' (wrRec r st) ∧ Chg (fun k => k = wb ∨ k = mb ∨ some k = v0.ownBlock) w w' ∧ (v'.ownBlock = v0.ownBlock ∨ ∃ q, v'.ownBlock = some q ∧ w.heap.size ≤ q) := by
  obtain ⟨hW, hB, hM⟩ := hW0
  have hB0 := hB
  refine calls_cw (args := [.pointer (some ⟨wb, 0, none⟩), r.val]) Tryd.func44 rfl rfl ?_
  show CW _ _ _ 110 [(0, .pointer (some ⟨wb, 0, none⟩)), (1, r.val)] w
  refine CW.rseq ?_
  refine WL.eff rfl (OP.box (by decide) rfl ?_)
  intro w1 hc1 hs1 hRBn
  have hRB : w1.heap[w.heap.size]? = some (.cells r.cells.toArray 57 (0, 0)) := hRBn
  clear hRBn
  have hW := hc1.at hW (fun h => h)
  have hB := hB.kept hc1 (fun _ _ h => h)
  have hM := hM.kept hc1 (fun h => h)
  have hC : Chg (fun k => k = wb ∨ k = mb ∨ some k = v0.ownBlock) w w1 := hc1.mono (fun _ _ h => h.elim)
  have hown : v0.ownBlock = v0.ownBlock ∨ ∃ q, v0.ownBlock = some q ∧ w.heap.size ≤ q := .inl rfl
  have hne : ∀ k, v0.ownBlock = some k → k ≠ w.heap.size := fun k hk e => by have := hB0.lt k hk; omega
  have hgt : w.heap.size < w1.heap.size := by omega
  refine WL.next ?_
  refine CW.rseq ?_
  refine WL.op (by decide) (R.move rfl) ?_
  refine WL.op (by decide) (FA57_0 rfl) ?_
  refine WL.op (by decide) (R.load Tryd.underlying9 rfl rfl (cell_at hRB r.at0)) ?_
  refine WL.eff rfl (OP.call (by decide) Tryd.func43 (by kernel_rfl) (by kernel_rfl) rfl (wname_any wb mb base _ st r.name _ ⟨hW, hB, hM⟩ hwb hmb hwm (by omega) (by first | omega | (show List.length _ ≤ _; simp only [List.length_append, beN_length, List.length_cons, List.length_nil]; omega)) (by omega)) ?_)
  rintro ed w2 ⟨rfl, vw2, ⟨hW, hB2, hM⟩, hc2, hown2⟩
  refine ⟨_, rfl, ?_⟩
  have hRB := hc2.at hRB (fun e => by rcases e with e | e | e <;> first | omega | exact hne _ e.symm rfl)
  have hC := hC.then hc2 (fun k hk e => by rcases e with e | e | e; exact .inl e; exact .inr (.inl e); exact .inr (.inr (own_back hown e hk)))
  have hown := own_next2 hown hown2 (by omega)
  have hne := ne_next hne hown2 (by omega)
  have hgt := Nat.lt_of_lt_of_le hgt hc2.size
  have hB := hB2
  clear hB2 hown2
  have hln := wrName_length r.name st
  have hlh : (wrHead r (wrName r.name st).1).length = (wrName r.name st).1.length + 8 := wrHead_length _ _
  refine WL.next ?_
  refine CW.seq ?_
  refine CW.draw (fun w0 => w0.heap[w.heap.size]? = some (.cells r.cells.toArray 57 (0, 0))) (by kernel_rfl) ?_
  have hC := hC.trans (Chg.drew _ _)
  have hM := hM.kept (Chg.drew (fun _ => False) _) (fun h => h)
  have hB := hB.kept (Chg.drew (fun _ => False) _) (fun _ _ h => h)
  have hgt := Nat.lt_of_lt_of_le hgt (Chg.drew (fun _ => False) _).size
  refine AH.take 0 rfl (by kernel_rfl) (by kernel_rfl) (by kernel_rfl) (fun _ _ _ _ h => h) hRB (by decide) (fun w hS => R.move rfl) ?_
  refine AH.take 1 rfl (by kernel_rfl) (by kernel_rfl) (by kernel_rfl) (fun _ _ _ _ h => h) hRB (by decide) (fun w hS => R.move rfl) ?_
  refine AH.take 2 rfl (by kernel_rfl) (by kernel_rfl) (by kernel_rfl) (fun _ _ _ _ h => h) hRB (by decide) (fun w hS => R.nilCheck rfl) ?_
  refine AH.take 3 rfl (by kernel_rfl) (by kernel_rfl) (by kernel_rfl) (fun _ _ _ _ h => h) hRB (by decide) (fun w hS => FA93_0 rfl) ?_
  refine AH.take 5 rfl (by kernel_rfl) (by kernel_rfl) (by kernel_rfl) (fun _ _ _ _ h => h) hRB (by decide) (fun w hS => FA57_1 rfl) ?_
  refine AH.take 6 rfl (by kernel_rfl) (by kernel_rfl) (by kernel_rfl) (fun _ _ _ _ h => h) hRB (by decide) (fun w hS => R.load Tryd.underlying3 rfl rfl (cell_at hS r.at1)) ?_
  refine AH.take 9 rfl (by kernel_rfl) (by kernel_rfl) (by kernel_rfl) (fun _ _ _ _ h => h) hRB (by decide) (fun w hS => FA57_2 rfl) ?_
  refine AH.take 10 rfl (by kernel_rfl) (by kernel_rfl) (by kernel_rfl) (fun _ _ _ _ h => h) hRB (by decide) (fun w hS => R.load Tryd.underlying3 rfl rfl (cell_at hS r.at2)) ?_
  refine AH.eff 4 (by kernel_rfl) rfl rfl (OP.val (by decide) (R.load Tryd.underlying36 rfl rfl (cell_at hW rfl)) ?_)
  refine ⟨hRB, ?_⟩
  refine AH.eff 7 (by kernel_rfl) rfl rfl (OP.call (by decide) Tryd.func42 (by kernel_rfl) (by kernel_rfl) rfl (put_any base _ _ 2 _ _ (by decide) hB (by omega) (by first | omega | (simp only [List.length_append, wrHead_length, beN_length, List.length_cons, List.length_nil, List.length_drop, List.length_set, h16]; omega))) ?_)
  rintro ed w10 ⟨vw10, rfl, hB2, hMv⟩
  refine ⟨_, rfl, ?_, ?_⟩
  · exact (Chg.moved hMv).at hRB (fun e => hne _ e.symm rfl)
  have hcm := Chg.moved hMv
  have hW := hcm.at hW (fun e => by have := hB.lt _ e.symm; omega)
  have hM := hM.kept hcm (fun e => by have := hB.lt _ e.symm; omega)
  have hRB := hcm.at hRB (fun e => hne _ e.symm rfl)
  have hC := hC.then hcm (fun k hk e => .inr (.inr (own_back hown e hk)))
  have hown := own_next hown hMv (by omega)
  have hne := ne_next hne hMv.at_ (by omega)
  have hgt := Nat.lt_of_lt_of_le hgt hcm.size
  have hB := hB2
  clear hB2 hMv
  refine AH.eff 8 (by kernel_rfl) rfl rfl (OP.call (by decide) Tryd.func42 (by kernel_rfl) (by kernel_rfl) rfl (put_any base _ _ 2 _ _ (by decide) hB (by omega) (by first | omega | (simp only [List.length_append, beN_length]; omega))) ?_)
  rintro ed w11 ⟨vw11, rfl, hB2, hMv⟩
  refine ⟨_, rfl, ?_, ?_⟩
  · exact (Chg.moved hMv).at hRB (fun e => hne _ e.symm rfl)
  have hcm := Chg.moved hMv
  have hW := hcm.at hW (fun e => by have := hB.lt _ e.symm; omega)
  have hM := hM.kept hcm (fun e => by have := hB.lt _ e.symm; omega)
  have hRB := hcm.at hRB (fun e => hne _ e.symm rfl)
  have hC := hC.then hcm (fun k hk e => .inr (.inr (own_back hown e hk)))
  have hown := own_next hown hMv (by omega)
  have hne := ne_next hne hMv.at_ (by omega)
  have hgt := Nat.lt_of_lt_of_le hgt hcm.size
  have hB := hB2
  clear hB2 hMv
  refine AH.eff 11 (by kernel_rfl) rfl rfl (OP.call (by decide) Tryd.func42 (by kernel_rfl) (by kernel_rfl) rfl (put_any base _ _ 4 _ _ (by decide) hB (by omega) (by first | omega | (simp only [List.length_append, beN_length]; omega))) ?_)
  rintro ed w12 ⟨vw12, rfl, hB2, hMv⟩
  refine ⟨_, rfl, ?_, ?_⟩
  · exact (Chg.moved hMv).at hRB (fun e => hne _ e.symm rfl)
  have hcm := Chg.moved hMv
  have hW := hcm.at hW (fun e => by have := hB.lt _ e.symm; omega)
  have hM := hM.kept hcm (fun e => by have := hB.lt _ e.symm; omega)
  have hRB := hcm.at hRB (fun e => hne _ e.symm rfl)
  have hC := hC.then hcm (fun k hk e => .inr (.inr (own_back hown e hk)))
  have hown := own_next hown hMv (by omega)
  have hne := ne_next hne hMv.at_ (by omega)
  have hgt := Nat.lt_of_lt_of_le hgt hcm.size
  have hB := hB2
  clear hB2 hMv
  refine AH.eff 12 (by kernel_rfl) rfl rfl (OP.val (by decide) (R.nilCheck rfl) ?_)
  refine ⟨hRB, ?_⟩
  refine AH.eff 13 (by kernel_rfl) rfl rfl (OP.val (by decide) (FA93_0 rfl) ?_)
  refine ⟨hRB, ?_⟩
  refine AH.eff 14 (by kernel_rfl) rfl rfl (OP.store1 sz36 rfl rfl hB.one.1 hB.one.2 hW (Nat.le_of_ble_eq_true rfl) rfl ?_)
  intro w13 hc13 _ hW
  have hM := hM.kept hc13 (fun e => by omega)
  have hB := hB.kept hc13 (fun k hk e => by have := hB.lt k hk; omega)
  have hRB := hc13.at hRB (by omega)
  have hC := hC.then hc13 (fun k hk e => .inl e)
  have hgt := Nat.lt_of_lt_of_le hgt hc13.size
  refine ⟨hRB, ?_⟩
  refine AH.done (by kernel_rfl) ?_
  refine EW.next ?_
  refine CW.rseq ?_
  refine WL.op (by decide) (R.move rfl) ?_
  refine WL.op (by decide) (R.nilCheck rfl) ?_
  refine WL.op (by decide) (FA93_0 rfl) ?_
  obtain ⟨ab, cb, rfl⟩ := hB.slice
  refine WL.op (by decide) (R.load (v := .slice ab (wrHead r (wrName r.name st).1).length cb) Tryd.underlying36 rfl rfl (cell_at hW rfl)) ?_
  refine WL.op (by decide) (R.lenSlice (m := (wrHead r (wrName r.name st).1).length) rfl Tryd.underlying36 rfl) ?_
  refine WL.op (by decide) (R.assign rfl) ?_
  refine WL.next ?_
  refine CW.rseq ?_
  refine WL.op (by decide) (R.move rfl) ?_
  refine WL.op (by decide) (R.move rfl) ?_
  refine WL.op (by decide) (R.nilCheck rfl) ?_
  refine WL.op (by decide) (FA93_0 rfl) ?_
  refine WL.op (by decide) (R.load Tryd.underlying36 rfl rfl (cell_at hW rfl)) ?_
  refine WL.eff rfl (OP.buildSlice (parts := [(0, _), (1, _)]) (vals := [(0, _), (1, _)]) (by decide) rfl buildSlice_00 ?_)
  intro w20 hc20 hs20 hb20
  have hW := hc20.at hW (fun h => h)
  have hB := hB.kept hc20 (fun _ _ h => h)
  have hM := hM.kept hc20 (fun h => h)
  have hRB := hc20.at hRB (fun h => h)
  have hC := hC.then hc20 (fun k hk e => e.elim)
  have hgt := Nat.lt_of_lt_of_le hgt hc20.size
  refine WL.eff rfl (OP.append [0, 0] (by decide) rfl rfl hB rfl (cells_two hb20) (by first | omega | (simp only [List.length_append, beN_length, List.length_cons, List.length_nil]; omega)) (by omega) ?_)
  intro v21 w21 hB2 hMv
  have hcm := Chg.moved hMv
  have hW := hcm.at hW (fun e => by have := hB.lt _ e.symm; omega)
  have hM := hM.kept hcm (fun e => by have := hB.lt _ e.symm; omega)
  have hRB := hcm.at hRB (fun e => hne _ e.symm rfl)
  have hC := hC.then hcm (fun k hk e => .inr (.inr (own_back hown e hk)))
  have hown := own_next hown hMv (by omega)
  have hne := ne_next hne hMv.at_ (by omega)
  have hgt := Nat.lt_of_lt_of_le hgt hcm.size
  have hB := hB2
  clear hB2 hMv
  refine WL.op (by decide) (R.nilCheck rfl) ?_
  refine WL.op (by decide) (FA93_0 rfl) ?_
  refine WL.eff rfl (OP.store1 sz36 rfl rfl hB.one.1 hB.one.2 hW (Nat.le_of_ble_eq_true rfl) rfl ?_)
  intro w22 hc22 _ hW
  have hM := hM.kept hc22 (fun e => by omega)
  have hB := hB.kept hc22 (fun k hk e => by have := hB.lt k hk; omega)
  have hRB := hc22.at hRB (by omega)
  have hC := hC.then hc22 (fun k hk e => .inl e)
  have hgt := Nat.lt_of_lt_of_le hgt hc22.size
  refine WL.next ?_
  refine CW.cut (fun l wr => ∃ (v : Value) (b3 : List UInt8) (at3 : At), l = [(0, .pointer (some ⟨wb, 0, none⟩)), (4, .int .i64 ((wrHead r (wrName r.name st).1).length : Nat))] ∧ wr.heap[wb]? = some (.cells #[v, .map (some mb)] 93 (0, 0)) ∧ Buf wr base v b3 ∧ WMap wr mb at3 ∧ Chg (fun k => k = wb ∨ k = mb ∨ some k = v0.ownBlock) w wr ∧ (v.ownBlock = v0.ownBlock ∨ ∃ q, v.ownBlock = some q ∧ w.heap.size ≤ q) ∧ wrBody r (wrHead r (wrName r.name st).1 ++ [0, 0]) (wrName r.name st).2 = (b3, at3) ∧ w.heap.size < wr.heap.size) ?_ ?_
  ·
    refine CW.rseq ?_
    refine WL.op (by decide) (FA57_1 rfl) ?_
    refine WL.op (by decide) (R.load Tryd.underlying3 rfl rfl (cell_at hRB r.at1)) ?_
    refine WL.next ?_
    refine CW.block ?_
    refine CW.seq ?_
    refine CW.block ?_
    refine CW.seq ?_
    refine CW.block ?_
    refine CW.block ?_
    refine CW.block ?_
    refine CW.seq ?_
    refine CW.block ?_
    refine CW.seq ?_
    refine CW.block ?_
    refine CW.seq ?_
    refine CW.seq ?_
    refine CW.rseq ?_
    refine WL.eqlS (by decide) rfl rfl (fun h1 => ?_) (fun h1 => ?_)
    · skip
      refine WL.op (by decide) (R.assign rfl) ?_
      refine WL.next ?_
      refine CW.condT rfl ?_
      refine CW.exit ?_
      refine EW.thenExit ?_
      refine EW.thenExit ?_
      refine EW.inHere ?_
      refine EW.next ?_
      refine CW.seq ?_
      refine CW.draw (fun w0 => w0.heap[w.heap.size]? = some (.cells r.cells.toArray 57 (0, 0))) (by kernel_rfl) ?_
      have hC := hC.trans (Chg.drew _ _)
      have hM := hM.kept (Chg.drew (fun _ => False) _) (fun h => h)
      have hB := hB.kept (Chg.drew (fun _ => False) _) (fun _ _ h => h)
      have hgt := Nat.lt_of_lt_of_le hgt (Chg.drew (fun _ => False) _).size
      refine AH.take 0 rfl (by kernel_rfl) (by kernel_rfl) (by kernel_rfl) (fun _ _ _ _ h => h) hRB (by decide) (fun w hS => R.move rfl) ?_
      refine AH.take 1 rfl (by kernel_rfl) (by kernel_rfl) (by kernel_rfl) (fun _ _ _ _ h => h) hRB (by decide) (fun w hS => R.move rfl) ?_
      refine AH.take 2 rfl (by kernel_rfl) (by kernel_rfl) (by kernel_rfl) (fun _ _ _ _ h => h) hRB (by decide) (fun w hS => R.nilCheck rfl) ?_
      refine AH.take 3 rfl (by kernel_rfl) (by kernel_rfl) (by kernel_rfl) (fun _ _ _ _ h => h) hRB (by decide) (fun w hS => FA93_0 rfl) ?_
      refine AH.take 5 rfl (by kernel_rfl) (by kernel_rfl) (by kernel_rfl) (fun _ _ _ _ h => h) hRB (by decide) (fun w hS => FA57_3 rfl) ?_
      refine AH.take 6 rfl (by kernel_rfl) (by kernel_rfl) (by kernel_rfl) (fun _ _ _ _ h => h) hRB (by decide) (fun w hS => R.sliceArr (lv := some (.int .i64 12)) (hv := none) (l1 := 12) (h1 := 16) Tryd.underlying27 sz5 rfl rfl rfl (by kernel_rfl) (by decide)) ?_
      refine AH.eff 4 (by kernel_rfl) rfl rfl (OP.val (by decide) (R.load Tryd.underlying36 rfl rfl (cell_at hW rfl)) ?_)
      refine ⟨hRB, ?_⟩
      refine AH.eff 7 (by kernel_rfl) rfl rfl (OP.append (r.addr.drop 12) (by decide) rfl rfl hB (by simp [h16]) (addr_cells12 hRB h16) (by first | omega | (simp only [List.length_append, beN_length, List.length_cons, List.length_nil, List.length_drop, h16]; omega)) (by omega) ?_)
      intro vw30 w30 hB2 hMv
      refine ⟨(Chg.moved hMv).at hRB (fun e => hne _ e.symm rfl), ?_⟩
      have hcm := Chg.moved hMv
      have hW := hcm.at hW (fun e => by have := hB.lt _ e.symm; omega)
      have hM := hM.kept hcm (fun e => by have := hB.lt _ e.symm; omega)
      have hRB := hcm.at hRB (fun e => hne _ e.symm rfl)
      have hC := hC.then hcm (fun k hk e => .inr (.inr (own_back hown e hk)))
      have hown := own_next hown hMv (by omega)
      have hne := ne_next hne hMv.at_ (by omega)
      have hgt := Nat.lt_of_lt_of_le hgt hcm.size
      have hB := hB2
      clear hB2 hMv
      refine AH.eff 8 (by kernel_rfl) rfl rfl (OP.val (by decide) (R.nilCheck rfl) ?_)
      refine ⟨hRB, ?_⟩
      refine AH.eff 9 (by kernel_rfl) rfl rfl (OP.val (by decide) (FA93_0 rfl) ?_)
      refine ⟨hRB, ?_⟩
      refine AH.eff 10 (by kernel_rfl) rfl rfl (OP.store1 sz36 rfl rfl hB.one.1 hB.one.2 hW (Nat.le_of_ble_eq_true rfl) rfl ?_)
      intro w31 hc31 _ hW
      have hM := hM.kept hc31 (fun e => by omega)
      have hB := hB.kept hc31 (fun k hk e => by have := hB.lt k hk; omega)
      have hRB := hc31.at hRB (by omega)
      have hC := hC.then hc31 (fun k hk e => .inl e)
      have hgt := Nat.lt_of_lt_of_le hgt hc31.size
      refine ⟨hRB, ?_⟩
      refine AH.done (by kernel_rfl) ?_
      refine EW.next ?_
      refine CW.exit ?_
      refine EW.inFar (by decide) ?_
      refine EW.thenExit ?_
      refine EW.inFar (by decide) ?_
      refine EW.inFar (by decide) ?_
      refine EW.inFar (by decide) ?_
      refine EW.thenExit ?_
      refine EW.inFar (by decide) ?_
      refine EW.thenExit ?_
      refine EW.inHere ?_
      exact EW.cutK [0, 4] ⟨_, _, _, rfl, hW, hB, hM, hC, hown, body1 (by omega), hgt⟩
    · skip
      refine WL.op (by decide) (R.assign rfl) ?_
      refine WL.next ?_
      refine CW.condF rfl ?_
      refine CW.skip ?_
      refine EW.next ?_
      refine CW.seq ?_
      refine CW.rseq ?_
      refine WL.eqlS (by decide) rfl rfl (fun h2 => ?_) (fun h2 => ?_)
      · skip
        refine WL.op (by decide) (R.assign rfl) ?_
        refine WL.next ?_
        refine CW.condT rfl ?_
        refine CW.exit ?_
        refine EW.thenExit ?_
        refine EW.thenExit ?_
        refine EW.inFar (by decide) ?_
        refine EW.thenExit ?_
        refine EW.inHere ?_
        refine EW.next ?_
        refine CW.seq ?_
        refine CW.draw (fun w0 => w0.heap[w.heap.size]? = some (.cells r.cells.toArray 57 (0, 0))) (by kernel_rfl) ?_
        have hC := hC.trans (Chg.drew _ _)
        have hM := hM.kept (Chg.drew (fun _ => False) _) (fun h => h)
        have hB := hB.kept (Chg.drew (fun _ => False) _) (fun _ _ h => h)
        have hgt := Nat.lt_of_lt_of_le hgt (Chg.drew (fun _ => False) _).size
        refine AH.take 0 rfl (by kernel_rfl) (by kernel_rfl) (by kernel_rfl) (fun _ _ _ _ h => h) hRB (by decide) (fun w hS => R.move rfl) ?_
        refine AH.take 1 rfl (by kernel_rfl) (by kernel_rfl) (by kernel_rfl) (fun _ _ _ _ h => h) hRB (by decide) (fun w hS => R.move rfl) ?_
        refine AH.take 2 rfl (by kernel_rfl) (by kernel_rfl) (by kernel_rfl) (fun _ _ _ _ h => h) hRB (by decide) (fun w hS => R.nilCheck rfl) ?_
        refine AH.take 3 rfl (by kernel_rfl) (by kernel_rfl) (by kernel_rfl) (fun _ _ _ _ h => h) hRB (by decide) (fun w hS => FA93_0 rfl) ?_
        refine AH.take 5 rfl (by kernel_rfl) (by kernel_rfl) (by kernel_rfl) (fun _ _ _ _ h => h) hRB (by decide) (fun w hS => FA57_3 rfl) ?_
        refine AH.take 6 rfl (by kernel_rfl) (by kernel_rfl) (by kernel_rfl) (fun _ _ _ _ h => h) hRB (by decide) (fun w hS => R.sliceArr (lv := none) (hv := none) (l1 := 0) (h1 := 16) Tryd.underlying27 sz5 rfl rfl rfl (by kernel_rfl) (by decide)) ?_
        refine AH.eff 4 (by kernel_rfl) rfl rfl (OP.val (by decide) (R.load Tryd.underlying36 rfl rfl (cell_at hW rfl)) ?_)
        refine ⟨hRB, ?_⟩
        refine AH.eff 7 (by kernel_rfl) rfl rfl (OP.append (r.addr) (by decide) rfl rfl hB (by simp [h16]) (addr_cells0 hRB h16) (by first | omega | (simp only [List.length_append, beN_length, List.length_cons, List.length_nil, h16]; omega)) (by omega) ?_)
        intro vw30 w30 hB2 hMv
        refine ⟨(Chg.moved hMv).at hRB (fun e => hne _ e.symm rfl), ?_⟩
        have hcm := Chg.moved hMv
        have hW := hcm.at hW (fun e => by have := hB.lt _ e.symm; omega)
        have hM := hM.kept hcm (fun e => by have := hB.lt _ e.symm; omega)
        have hRB := hcm.at hRB (fun e => hne _ e.symm rfl)
        have hC := hC.then hcm (fun k hk e => .inr (.inr (own_back hown e hk)))
        have hown := own_next hown hMv (by omega)
        have hne := ne_next hne hMv.at_ (by omega)
        have hgt := Nat.lt_of_lt_of_le hgt hcm.size
        have hB := hB2
        clear hB2 hMv
        refine AH.eff 8 (by kernel_rfl) rfl rfl (OP.val (by decide) (R.nilCheck rfl) ?_)
        refine ⟨hRB, ?_⟩
        refine AH.eff 9 (by kernel_rfl) rfl rfl (OP.val (by decide) (FA93_0 rfl) ?_)
        refine ⟨hRB, ?_⟩
        refine AH.eff 10 (by kernel_rfl) rfl rfl (OP.store1 sz36 rfl rfl hB.one.1 hB.one.2 hW (Nat.le_of_ble_eq_true rfl) rfl ?_)
        intro w31 hc31 _ hW
        have hM := hM.kept hc31 (fun e => by omega)
        have hB := hB.kept hc31 (fun k hk e => by have := hB.lt k hk; omega)
        have hRB := hc31.at hRB (by omega)
        have hC := hC.then hc31 (fun k hk e => .inl e)
        have hgt := Nat.lt_of_lt_of_le hgt hc31.size
        refine ⟨hRB, ?_⟩
        refine AH.done (by kernel_rfl) ?_
        refine EW.next ?_
        refine CW.exit ?_
        refine EW.inFar (by decide) ?_
        refine EW.inFar (by decide) ?_
        refine EW.inFar (by decide) ?_
        refine EW.thenExit ?_
        refine EW.inFar (by decide) ?_
        refine EW.thenExit ?_
        refine EW.inHere ?_
        exact EW.cutK [0, 4] ⟨_, _, _, rfl, hW, hB, hM, hC, hown, body2 (by omega), hgt⟩
      · skip
        refine WL.op (by decide) (R.assign rfl) ?_
        refine WL.next ?_
        refine CW.condF rfl ?_
        refine CW.skip ?_
        refine EW.next ?_
        refine CW.seq ?_
        refine CW.rseq ?_
        refine WL.eqlS (by decide) rfl rfl (fun h3 => ?_) (fun h3 => ?_)
        · skip
          refine WL.op (by decide) (R.assign rfl) ?_
          refine WL.next ?_
          refine CW.condT rfl ?_
          refine CW.exit ?_
          refine EW.thenExit ?_
          refine EW.thenExit ?_
          refine EW.inFar (by decide) ?_
          refine EW.thenExit ?_
          refine EW.inFar (by decide) ?_
          refine EW.thenExit ?_
          refine EW.inHere ?_
          refine EW.inNormal ?_
          refine EW.inNormal ?_
          refine EW.next ?_
          refine CW.rseq ?_
          refine WL.op (by decide) (R.move rfl) ?_
          refine WL.op (by decide) (FA57_4 rfl) ?_
          refine WL.op (by decide) (R.load Tryd.underlying9 rfl rfl (cell_at hRB (Rec.at19 h16))) ?_
          refine WL.eff rfl (OP.call (by decide) Tryd.func43 (by kernel_rfl) (by kernel_rfl) rfl (wname_any wb mb base _ (_, _) r.text _ ⟨hW, hB, hM⟩ hwb hmb hwm (by omega) (by first | omega | (show List.length _ ≤ _; simp only [List.length_append, beN_length, List.length_cons, List.length_nil]; omega)) (by omega)) ?_)
          rintro ed w30 ⟨rfl, vw30, ⟨hW, hB2, hM⟩, hc30, hown2⟩
          refine ⟨_, rfl, ?_⟩
          have hRB := hc30.at hRB (fun e => by rcases e with e | e | e <;> first | omega | exact hne _ e.symm rfl)
          have hC := hC.then hc30 (fun k hk e => by rcases e with e | e | e; exact .inl e; exact .inr (.inl e); exact .inr (.inr (own_back hown e hk)))
          have hown := own_next2 hown hown2 (by omega)
          have hne := ne_next hne hown2 (by omega)
          have hgt := Nat.lt_of_lt_of_le hgt hc30.size
          have hB := hB2
          clear hB2 hown2
          refine WL.next ?_
          refine CW.exit ?_
          refine EW.inFar (by decide) ?_
          refine EW.thenExit ?_
          refine EW.inHere ?_
          exact EW.cutK [0, 4] ⟨_, _, _, rfl, hW, hB, hM, hC, hown, body3 (by omega), hgt⟩
        · skip
          refine WL.op (by decide) (R.assign rfl) ?_
          refine WL.next ?_
          refine CW.condF rfl ?_
          refine CW.skip ?_
          refine EW.next ?_
          refine CW.seq ?_
          refine CW.rseq ?_
          refine WL.eqlS (by decide) rfl rfl (fun h4 => ?_) (fun h4 => ?_)
          · skip
            refine WL.op (by decide) (R.assign rfl) ?_
            refine WL.next ?_
            refine CW.condT rfl ?_
            refine CW.exit ?_
            refine EW.thenExit ?_
            refine EW.thenExit ?_
            refine EW.inFar (by decide) ?_
            refine EW.thenExit ?_
            refine EW.inFar (by decide) ?_
            refine EW.thenExit ?_
            refine EW.inFar (by decide) ?_
            refine EW.inHere ?_
            refine EW.inNormal ?_
            refine EW.next ?_
            refine CW.rseq ?_
            refine WL.op (by decide) (R.move rfl) ?_
            refine WL.op (by decide) (FA57_4 rfl) ?_
            refine WL.op (by decide) (R.load Tryd.underlying9 rfl rfl (cell_at hRB (Rec.at19 h16))) ?_
            refine WL.eff rfl (OP.call (by decide) Tryd.func43 (by kernel_rfl) (by kernel_rfl) rfl (wname_any wb mb base _ (_, _) r.text _ ⟨hW, hB, hM⟩ hwb hmb hwm (by omega) (by first | omega | (show List.length _ ≤ _; simp only [List.length_append, beN_length, List.length_cons, List.length_nil]; omega)) (by omega)) ?_)
            rintro ed w30 ⟨rfl, vw30, ⟨hW, hB2, hM⟩, hc30, hown2⟩
            refine ⟨_, rfl, ?_⟩
            have hRB := hc30.at hRB (fun e => by rcases e with e | e | e <;> first | omega | exact hne _ e.symm rfl)
            have hC := hC.then hc30 (fun k hk e => by rcases e with e | e | e; exact .inl e; exact .inr (.inl e); exact .inr (.inr (own_back hown e hk)))
            have hown := own_next2 hown hown2 (by omega)
            have hne := ne_next hne hown2 (by omega)
            have hgt := Nat.lt_of_lt_of_le hgt hc30.size
            have hB := hB2
            clear hB2 hown2
            refine WL.next ?_
            refine CW.exit ?_
            refine EW.inFar (by decide) ?_
            refine EW.thenExit ?_
            refine EW.inHere ?_
            exact EW.cutK [0, 4] ⟨_, _, _, rfl, hW, hB, hM, hC, hown, body3 (by omega), hgt⟩
          · skip
            refine WL.op (by decide) (R.assign rfl) ?_
            refine WL.next ?_
            refine CW.condF rfl ?_
            refine CW.skip ?_
            refine EW.next ?_
            refine CW.rseq ?_
            refine WL.eqlS (by decide) rfl rfl (fun h5 => ?_) (fun h5 => ?_)
            · skip
              refine WL.op (by decide) (R.assign rfl) ?_
              refine WL.next ?_
              refine CW.condT rfl ?_
              refine CW.exit ?_
              refine EW.thenExit ?_
              refine EW.inFar (by decide) ?_
              refine EW.thenExit ?_
              refine EW.inFar (by decide) ?_
              refine EW.thenExit ?_
              refine EW.inFar (by decide) ?_
              refine EW.inFar (by decide) ?_
              refine EW.inHere ?_
              refine EW.next ?_
              refine CW.rseq ?_
              refine WL.op (by decide) (R.move rfl) ?_
              refine WL.op (by decide) (FA57_4 rfl) ?_
              refine WL.op (by decide) (R.load Tryd.underlying9 rfl rfl (cell_at hRB (Rec.at19 h16))) ?_
              refine WL.eff rfl (OP.call (by decide) Tryd.func43 (by kernel_rfl) (by kernel_rfl) rfl (wname_any wb mb base _ (_, _) r.text _ ⟨hW, hB, hM⟩ hwb hmb hwm (by omega) (by first | omega | (show List.length _ ≤ _; simp only [List.length_append, beN_length, List.length_cons, List.length_nil]; omega)) (by omega)) ?_)
              rintro ed w30 ⟨rfl, vw30, ⟨hW, hB2, hM⟩, hc30, hown2⟩
              refine ⟨_, rfl, ?_⟩
              have hRB := hc30.at hRB (fun e => by rcases e with e | e | e <;> first | omega | exact hne _ e.symm rfl)
              have hC := hC.then hc30 (fun k hk e => by rcases e with e | e | e; exact .inl e; exact .inr (.inl e); exact .inr (.inr (own_back hown e hk)))
              have hown := own_next2 hown hown2 (by omega)
              have hne := ne_next hne hown2 (by omega)
              have hgt := Nat.lt_of_lt_of_le hgt hc30.size
              have hB := hB2
              clear hB2 hown2
              refine WL.next ?_
              refine CW.exit ?_
              refine EW.inFar (by decide) ?_
              refine EW.thenExit ?_
              refine EW.inHere ?_
              exact EW.cutK [0, 4] ⟨_, _, _, rfl, hW, hB, hM, hC, hown, body3 (by omega), hgt⟩
            · skip
              refine WL.op (by decide) (R.assign rfl) ?_
              refine WL.next ?_
              refine CW.condF rfl ?_
              refine CW.skip ?_
              refine EW.next ?_
              refine CW.exit ?_
              refine EW.inFar (by decide) ?_
              refine EW.thenExit ?_
              refine EW.inFar (by decide) ?_
              refine EW.thenExit ?_
              refine EW.inFar (by decide) ?_
              refine EW.inFar (by decide) ?_
              refine EW.inFar (by decide) ?_
              refine EW.thenExit ?_
              refine EW.inHere ?_
              refine EW.next ?_
              refine CW.seq ?_
              refine CW.draw (fun w0 => w0.heap[w.heap.size]? = some (.cells r.cells.toArray 57 (0, 0))) (by kernel_rfl) ?_
              have hC := hC.trans (Chg.drew _ _)
              have hM := hM.kept (Chg.drew (fun _ => False) _) (fun h => h)
              have hB := hB.kept (Chg.drew (fun _ => False) _) (fun _ _ h => h)
              have hgt := Nat.lt_of_lt_of_le hgt (Chg.drew (fun _ => False) _).size
              refine AH.take 0 rfl (by kernel_rfl) (by kernel_rfl) (by kernel_rfl) (fun _ _ _ _ h => h) hRB (by decide) (fun w hS => R.move rfl) ?_
              refine AH.take 1 rfl (by kernel_rfl) (by kernel_rfl) (by kernel_rfl) (fun _ _ _ _ h => h) hRB (by decide) (fun w hS => R.move rfl) ?_
              refine AH.take 2 rfl (by kernel_rfl) (by kernel_rfl) (by kernel_rfl) (fun _ _ _ _ h => h) hRB (by decide) (fun w hS => R.nilCheck rfl) ?_
              refine AH.take 3 rfl (by kernel_rfl) (by kernel_rfl) (by kernel_rfl) (fun _ _ _ _ h => h) hRB (by decide) (fun w hS => FA93_0 rfl) ?_
              refine AH.take 5 rfl (by kernel_rfl) (by kernel_rfl) (by kernel_rfl) (fun _ _ _ _ h => h) hRB (by decide) (fun w hS => FA57_5 rfl) ?_
              refine AH.take 6 rfl (by kernel_rfl) (by kernel_rfl) (by kernel_rfl) (fun _ _ _ _ h => h) hRB (by decide) (fun w hS => R.load Tryd.underlying9 rfl rfl (cell_at hS (Rec.at20 h16))) ?_
              refine AH.eff 4 (by kernel_rfl) rfl rfl (OP.val (by decide) (R.load Tryd.underlying36 rfl rfl (cell_at hW rfl)) ?_)
              refine ⟨hRB, ?_⟩
              refine AH.eff 7 (by kernel_rfl) rfl rfl (OP.appendStr (by decide) rfl rfl hB (by first | omega | (simp only [List.length_append, beN_length, List.length_cons, List.length_nil]; omega)) (by omega) ?_)
              intro vw30 w30 hB2 hMv
              refine ⟨(Chg.moved hMv).at hRB (fun e => hne _ e.symm rfl), ?_⟩
              have hcm := Chg.moved hMv
              have hW := hcm.at hW (fun e => by have := hB.lt _ e.symm; omega)
              have hM := hM.kept hcm (fun e => by have := hB.lt _ e.symm; omega)
              have hRB := hcm.at hRB (fun e => hne _ e.symm rfl)
              have hC := hC.then hcm (fun k hk e => .inr (.inr (own_back hown e hk)))
              have hown := own_next hown hMv (by omega)
              have hne := ne_next hne hMv.at_ (by omega)
              have hgt := Nat.lt_of_lt_of_le hgt hcm.size
              have hB := hB2
              clear hB2 hMv
              refine AH.eff 8 (by kernel_rfl) rfl rfl (OP.val (by decide) (R.nilCheck rfl) ?_)
              refine ⟨hRB, ?_⟩
              refine AH.eff 9 (by kernel_rfl) rfl rfl (OP.val (by decide) (FA93_0 rfl) ?_)
              refine ⟨hRB, ?_⟩
              refine AH.eff 10 (by kernel_rfl) rfl rfl (OP.store1 sz36 rfl rfl hB.one.1 hB.one.2 hW (Nat.le_of_ble_eq_true rfl) rfl ?_)
              intro w31 hc31 _ hW
              have hM := hM.kept hc31 (fun e => by omega)
              have hB := hB.kept hc31 (fun k hk e => by have := hB.lt k hk; omega)
              have hRB := hc31.at hRB (by omega)
              have hC := hC.then hc31 (fun k hk e => .inl e)
              have hgt := Nat.lt_of_lt_of_le hgt hc31.size
              refine ⟨hRB, ?_⟩
              refine AH.done (by kernel_rfl) ?_
              refine EW.next ?_
              refine CW.exit ?_
              refine EW.inHere ?_
              exact EW.cutK [0, 4] ⟨_, _, _, rfl, hW, hB, hM, hC, hown, body4 (by omega) (by omega) (by omega), hgt⟩
  · rintro l wr ⟨v, b3, at3, rfl, hW, hB, hM, hC, hown, hbody, hgt⟩
    have hbl := wrBody_length r (wrHead r (wrName r.name st).1 ++ [0, 0]) (wrName r.name st).2 h16
    rw [hbody] at hbl
    simp only [List.length_append, List.length_cons, List.length_nil] at hbl
    refine CW.rseq ?_
    refine WL.op (by decide) (R.move rfl) ?_
    refine WL.op (by decide) (R.nilCheck rfl) ?_
    refine WL.op (by decide) (FA93_0 rfl) ?_
    obtain ⟨ab, cb, rfl⟩ := hB.slice
    refine WL.op (by decide) (R.load Tryd.underlying36 rfl rfl (cell_at hW rfl)) ?_
    refine WL.op (by decide) (R.lenSlice rfl Tryd.underlying36 rfl) ?_
    refine WL.op (by decide) (R.move rfl) ?_
    refine WL.op (by decide) (R.sub rfl rfl (by omega)) ?_
    refine WL.op (by decide) (R.sub rfl rfl (by omega)) ?_
    refine WL.op (by decide) (R.assign rfl) ?_
    refine WL.next ?_
    refine CW.draw (fun w => w.heap[wb]? = some (.cells #[.slice ab b3.length cb, .map (some mb)] 93 (0, 0))) (by kernel_rfl) ?_
    have hC := hC.trans (Chg.drew _ _)
    have hM := hM.kept (Chg.drew (fun _ => False) _) (fun h => h)
    have hB := hB.kept (Chg.drew (fun _ => False) _) (fun _ _ h => h)
    obtain ⟨gb, rfl, hgb⟩ := hB.addr (by intro h; rw [h] at hbl; simp at hbl)
    refine AH.take 0 rfl (by kernel_rfl) (by kernel_rfl) (by kernel_rfl) (fun _ _ _ _ h => h) hW (by decide) (fun w hS => R.move rfl) ?_
    refine AH.take 1 rfl (by kernel_rfl) (by kernel_rfl) (by kernel_rfl) (fun _ _ _ _ h => h) hW (by decide) (fun w hS => R.nilCheck rfl) ?_
    refine AH.take 2 rfl (by kernel_rfl) (by kernel_rfl) (by kernel_rfl) (fun _ _ _ _ h => h) hW (by decide) (fun w hS => FA93_0 rfl) ?_
    refine AH.take 3 rfl (by kernel_rfl) (by kernel_rfl) (by kernel_rfl) (fun _ _ _ _ h => h) hW (by decide) (fun w hS => R.load Tryd.underlying36 rfl rfl (cell_at hS rfl)) ?_
    refine AH.take 4 rfl (by kernel_rfl) (by kernel_rfl) (by kernel_rfl) (fun _ _ _ _ h => h) hW (by decide) (fun w hS => R.move rfl) ?_
    refine AH.take 5 rfl (by kernel_rfl) (by kernel_rfl) (by kernel_rfl) (fun _ _ _ _ h => h) hW (by decide) (fun w hS => R.move rfl) ?_
    refine AH.take 6 rfl (by kernel_rfl) (by kernel_rfl) (by kernel_rfl) (fun _ _ _ _ h => h) hW (by decide) (fun w hS => R.nilCheck rfl) ?_
    refine AH.take 7 rfl (by kernel_rfl) (by kernel_rfl) (by kernel_rfl) (fun _ _ _ _ h => h) hW (by decide) (fun w hS => FA93_0 rfl) ?_
    refine AH.take 8 rfl (by kernel_rfl) (by kernel_rfl) (by kernel_rfl) (fun _ _ _ _ h => h) hW (by decide) (fun w hS => R.load Tryd.underlying36 rfl rfl (cell_at hS rfl)) ?_
    refine AH.take 9 rfl (by kernel_rfl) (by kernel_rfl) (by kernel_rfl) (fun _ _ _ _ h => h) hW (by decide) (fun w hS => R.move rfl) ?_
    refine AH.take 10 rfl (by kernel_rfl) (by kernel_rfl) (by kernel_rfl) (fun _ _ _ _ h => h) hW (by decide) (fun w hS => R.add rfl rfl (by omega)) ?_
    refine AH.take 11 rfl (by kernel_rfl) (by kernel_rfl) (by kernel_rfl) (fun _ _ _ _ h => h) hW (by decide) (fun w hS => R.move rfl) ?_
    refine AH.take 12 rfl (by kernel_rfl) (by kernel_rfl) (by kernel_rfl) (fun _ _ _ _ h => h) hW (by decide) (fun w hS => R.shr rfl rfl (by omega)) ?_
    refine AH.take 13 rfl (by kernel_rfl) (by kernel_rfl) (by kernel_rfl) (fun _ _ _ _ h => h) hW (by decide) (fun w hS => R.conv35 rfl) ?_
    refine AH.take 14 rfl (by kernel_rfl) (by kernel_rfl) (by kernel_rfl) (fun _ _ _ _ h => h) hW (by decide) (fun w hS => R.move rfl) ?_
    refine AH.take 15 rfl (by kernel_rfl) (by kernel_rfl) (by kernel_rfl) (fun _ _ _ _ h => h) hW (by decide) (fun w hS => R.conv35 rfl) ?_
    refine AH.eff 16 (by kernel_rfl) rfl rfl (OP.val (by decide) (R.indexAddr1 (i := (wrHead r (wrName r.name st).1).length) Tryd.underlying36 sz5 rfl rfl rfl (by omega)) ?_)
    refine ⟨hW, ?_⟩
    refine AH.eff 17 (by kernel_rfl) rfl rfl (OP.setB hB rfl rfl rfl (by omega) ?_)
    intro w40 hc40 hs40 hB
    have hW := hc40.at hW (by omega)
    refine ⟨hW, ?_⟩
    have hM := hM.kept hc40 (by omega)
    have hC := hC.then hc40 (fun k hk e => .inr (.inr (own_back hown (by subst e; rfl) hk)))
    refine AH.eff 18 (by kernel_rfl) rfl rfl (OP.val (by decide) (R.indexAddr1 (i := (wrHead r (wrName r.name st).1).length + 1) Tryd.underlying36 sz5 rfl rfl rfl (by omega)) ?_)
    refine ⟨hW, ?_⟩
    refine AH.eff 19 (by kernel_rfl) rfl rfl (OP.setB hB rfl rfl rfl (by first | omega | (simp only [wrHead_length, List.length_set]; omega)) ?_)
    intro w41 hc41 hs41 hB
    have hW := hc41.at hW (by omega)
    refine ⟨hW, ?_⟩
    have hM := hM.kept hc41 (by omega)
    have hC := hC.then hc41 (fun k hk e => .inr (.inr (own_back hown (by subst e; rfl) hk)))
    refine AH.done (by kernel_rfl) ?_
    exact EW.ret0 (.inr rfl) rfl ⟨rfl, _, ⟨hW, by rw [wrRec, hbody]; exact hB, by rw [wrRec, hbody]; exact hM⟩, hC, hown⟩
end Go.Proofs.YthcpjcgjmdfpjaaDoor

namespace Go.Proofs.YthcpjcgjmdfpjaaDoor
open Go Go.RowKit
set_option maxRecDepth 100000
set_option maxHeartbeats 8000000

def bitAt (i : Nat) : Nat := ([32768, 512, 256][i]?).getD 0
/-- The flags, after so many bits. -/
def flagsTo (c : Nat) (ons : List Bool) : Nat → Nat
  | 0 => c
  | i + 1 => if (ons[i]?).getD false then flagsTo c ons i ||| bitAt i else flagsTo c ons i
def headNums (m : Msg) : List Int := [m.id, ((flagsTo m.code.toNat [m.reply, m.trunc, m.recur] 3 : Nat) : Int), 1, (m.ans.length : Nat), (m.auth.length : Nat), 0]
def wrRecs (rs : List Rec) (st : List UInt8 × At) : List UInt8 × At := rs.foldl (fun st r => wrRec r st) st
/-- A message's bytes. -/
def enc (m : Msg) : List UInt8 :=
  (wrRecs m.auth (wrRecs m.ans ((wrName m.qname ((headNums m).flatMap (beN 2), [])).1 ++ beN 2 m.qtype ++ beN 2 1, (wrName m.qname ((headNums m).flatMap (beN 2), [])).2))).1
theorem enc_eq {m : Msg} {st1 : List UInt8 × At} (h : st1 = ((wrName m.qname ((headNums m).flatMap (beN 2), [])).1 ++ beN 2 m.qtype ++ beN 2 1, (wrName m.qname ((headNums m).flatMap (beN 2), [])).2)) : enc m = (wrRecs m.auth (wrRecs m.ans st1)).1 := by subst h; rfl
theorem wrRecs_take {rs : List Rec} {j : Nat} {x : Rec} {st : List UInt8 × At} (h : rs[j]? = some x) : wrRecs (rs.take (j + 1)) st = wrRec x (wrRecs (rs.take j) st) := by
  have hlt := (List.getElem?_eq_some_iff.1 h).1
  have hv := (List.getElem?_eq_some_iff.1 h).2
  rw [List.take_succ_eq_append_getElem hlt, hv, wrRecs, List.foldl_append]; rfl
theorem wrRec_length (r : Rec) (st : List UInt8 × At) (h16 : r.addr.length = 16) : (wrRec r st).1.length ≤ st.1.length + r.name.length + r.text.length + r.data.length + 40 := by
  have h1 := wrName_length r.name st
  have h2 := wrBody_length r (wrHead r (wrName r.name st).1 ++ [0, 0]) (wrName r.name st).2 h16
  have h3 := wrHead_length r (wrName r.name st).1
  simp only [List.length_append, List.length_cons, List.length_nil] at h2
  show (setN _ _).length ≤ _
  rw [setN_length]; omega
theorem headNums_length (m : Msg) : (headNums m).length = 6 := rfl
theorem headNums_eq {m : Msg} {f : Nat} (h : f = flagsTo m.code.toNat [m.reply, m.trunc, m.recur] 3) : headNums m = [m.id, (f : Nat), 1, (m.ans.length : Nat), (m.auth.length : Nat), 0] := by subst h; rfl
theorem nums_at {m : Msg} {i : Nat} {q : Int} (h : (headNums m)[i]? = some q) : ((headNums m).map (Value.int .i64)).toArray[i]? = some (.int .i64 q) := by
  rw [List.getElem?_toArray, List.getElem?_map, h]; rfl
theorem nums_take {m : Msg} {i : Nat} {q : Int} (h : (headNums m)[i]? = some q) : ((headNums m).take (i + 1)).flatMap (beN 2) = ((headNums m).take i).flatMap (beN 2) ++ beN 2 q := by
  have hlt := (List.getElem?_eq_some_iff.1 h).1
  have hv := (List.getElem?_eq_some_iff.1 h).2
  rw [List.take_succ_eq_append_getElem hlt, hv, List.flatMap_append]; simp
theorem ons_at {a b c : Bool} {i : Nat} {on : Bool} (h : [a, b, c][i]? = some on) : (#[Value.bool a, .bool b, .bool c])[i]? = some (.bool on) := by
  match i, h with
  | 0, h => obtain rfl := Option.some.inj h; rfl
  | 1, h => obtain rfl := Option.some.inj h; rfl
  | 2, h => obtain rfl := Option.some.inj h; rfl
  | k + 3, h => simp at h
theorem bits_at {i bit : Nat} (h : [32768, 512, 256][i]? = some bit) : (#[Value.int .i64 32768, .int .i64 512, .int .i64 256])[i]? = some (.int .i64 (bit : Nat)) := by
  match i, h with
  | 0, h => obtain rfl := Option.some.inj h; rfl
  | 1, h => obtain rfl := Option.some.inj h; rfl
  | 2, h => obtain rfl := Option.some.inj h; rfl
  | k + 3, h => simp at h
theorem bit_lt {i bit : Nat} (h : [32768, 512, 256][i]? = some bit) : bit < 65536 := by
  match i, h with
  | 0, h => obtain rfl := Option.some.inj h; decide
  | 1, h => obtain rfl := Option.some.inj h; decide
  | 2, h => obtain rfl := Option.some.inj h; decide
  | k + 3, h => simp at h
theorem flags_on {c : Nat} {ons : List Bool} {i bit f : Nat} (h : ons[i]? = some true) (hb : [32768, 512, 256][i]? = some bit) (hf : f = flagsTo c ons i) : f ||| bit = flagsTo c ons (i + 1) := by
  subst hf
  simp [flagsTo, h, bitAt, hb]
theorem flags_off {c : Nat} {ons : List Bool} {i f : Nat} (h : ons[i]? = some false) (hf : f = flagsTo c ons i) : f = flagsTo c ons (i + 1) := by
  subst hf
  simp [flagsTo, h]
theorem build89 (a b c : Bool) (w : World) : (Instr.build 89 #[(0, .bool a), (1, .bool b), (2, .bool c)]).run Tryd.prog w = .ok (.agg #[.bool a, .bool b, .bool c]) w := by kernel_rfl
theorem build64 (a b c : Int) (w : World) : (Instr.build 64 #[(0, .int .i64 a), (1, .int .i64 b), (2, .int .i64 c)]).run Tryd.prog w = .ok (.agg #[.int .i64 a, .int .i64 b, .int .i64 c]) w := by kernel_rfl
theorem build93 (m : Nat) (w : World) : (Instr.build 93 #[(1, .map (some m))]).run Tryd.prog w = .ok (.agg #[.slice none 0 0, .map (some m)]) w := by kernel_rfl
theorem build94 (a b c d e f : Int) (w : World) : (Instr.build 94 #[(0, .int .i64 a), (1, .int .i64 b), (2, .int .i64 c), (3, .int .i64 d), (4, .int .i64 e), (5, .int .i64 f)]).run Tryd.prog w = .ok (.agg #[.int .i64 a, .int .i64 b, .int .i64 c, .int .i64 d, .int .i64 e, .int .i64 f]) w := by kernel_rfl

theorem Buf.mono {w : World} {base base' : Nat} {v : Value} {bs : List UInt8} (h : Buf w base v bs) (hb : base' ≤ base) : Buf w base' v bs :=
  ⟨h.1, h.2.imp id fun ⟨g, cap, cur, h1, h2, h3⟩ => ⟨g, cap, cur, h1, Nat.le_trans hb h2, h3⟩⟩
def Rec.tiny (r : Rec) : Prop := r.name.length ≤ 131072 ∧ r.text.length ≤ 131072 ∧ r.data.length ≤ 131072
/-- A message that may be encoded: short enough. -/
structure Msg.tiny (m : Msg) : Prop where
  q : m.qname.length ≤ 131072
  n : m.ans.length + m.auth.length ≤ 1000
  r : ∀ r ∈ m.ans ++ m.auth, r.tiny
  code : 0 ≤ m.code ∧ m.code ≤ 65535

theorem encode_any (m : Msg) (v0 : Value) (w : World) (hm : MV w v0 m) (ht : m.tiny) :
    Calls Tryd.prog 24 #[v0] w fun e w' => ∃ v, e = .returned v ∧ Buf w' w.heap.size v (enc m) ∧ Chg (fun _ => False) w w' := by
  obtain ⟨va, vb, rfl, hva, hvb⟩ := hm
  obtain ⟨Aa, ca, rfl, _⟩ := hva.form
  obtain ⟨Ab, cb, rfl, _⟩ := hvb.form
  obtain ⟨hql, hnl, hsm, hcode⟩ := ht
  refine calls_cw (args := [.agg (m.cells (.slice Aa m.ans.length ca) (.slice Ab m.auth.length cb)).toArray]) Tryd.func24 rfl rfl ?_
  show CW _ _ _ 102 [(0, .agg (m.cells (.slice Aa m.ans.length ca) (.slice Ab m.auth.length cb)).toArray)] w
  refine CW.rseq ?_
  refine WL.eff rfl (OP.box (by decide) rfl ?_)
  intro w1 hc1 hs1 hBm0
  obtain ⟨bm, he_bm⟩ : ∃ b, b = w.heap.size := ⟨_, rfl⟩
  have hBm : w1.heap[bm]? = some (.cells (m.cells (.slice Aa m.ans.length ca) (.slice Ab m.auth.length cb)).toArray 33 (0, 0)) := by rw [he_bm]; exact hBm0
  rw [← he_bm]
  have hC := hc1
  refine WL.op (by decide) (R.assign rfl) ?_
  refine WL.next ?_
  refine CW.rseq ?_
  refine WL.op (by decide) (FA33_4 rfl) ?_
  refine WL.op (by decide) (R.load Tryd.underlying3 rfl rfl (cell_at hBm rfl)) ?_
  refine WL.op (by decide) (R.assign rfl) ?_
  refine WL.next ?_
  refine CW.seq ?_
  refine CW.rseq ?_
  refine WL.op (by decide) (FA33_1 rfl) ?_
  refine WL.op (by decide) (R.load Tryd.underlying4 rfl rfl (cell_at hBm rfl)) ?_
  refine WL.op (by decide) (FA33_2 rfl) ?_
  refine WL.op (by decide) (R.load Tryd.underlying4 rfl rfl (cell_at hBm rfl)) ?_
  refine WL.op (by decide) (FA33_3 rfl) ?_
  refine WL.op (by decide) (R.load Tryd.underlying4 rfl rfl (cell_at hBm rfl)) ?_
  refine WL.op (by decide) (R.build (parts := [(0, _), (1, _), (2, _)]) (vals := [(0, _), (1, _), (2, _)]) rfl (fun w => build89 _ _ _ w)) ?_
  refine WL.op (by decide) (R.move rfl) ?_
  refine WL.next ?_
  refine CW.block ?_
  refine CW.loopK [1, 3, 21, 22] (fun k l wr => w1 = wr ∧ ∃ (i : Nat) (ii : Int) (f : Nat), i + k = 3 ∧ ii = (i : Int) ∧ l = [(1, .pointer (some ⟨bm, 0, none⟩)), (3, .int .i64 (f : Nat)), (21, .agg #[.bool m.reply, .bool m.trunc, .bool m.recur]), (22, .int .i64 ii)] ∧ f = flagsTo m.code.toNat [m.reply, m.trunc, m.recur] i ∧ f < 65536) (3) ?_ ?_
  · exact ⟨rfl, 0, 0, m.code.toNat, by omega, rfl, by rw [Int.toNat_of_nonneg hcode.1]; rfl, rfl, by omega⟩
  · rintro k l wr ⟨rfl, i, ii, f, hik, rfl, rfl, hf, hf2⟩
    refine CW.rseq ?_
    refine WL.lssS (by decide) rfl rfl (fun h1 => ?_) (fun h1 => ?_)
    · skip
      refine WL.next ?_
      refine CW.seq ?_
      refine CW.condT rfl ?_
      refine CW.skip ?_
      refine EW.next ?_
      refine CW.seq ?_
      refine CW.block ?_
      refine CW.rseq ?_
      obtain ⟨on, hon⟩ : ∃ b, [m.reply, m.trunc, m.recur][i]? = some b := ⟨[m.reply, m.trunc, m.recur][i]'(by simp; omega), List.getElem?_eq_getElem _⟩
      obtain ⟨bit, hbit⟩ : ∃ b, [32768, 512, 256][i]? = some b := ⟨[32768, 512, 256][i]'(by simp; omega), List.getElem?_eq_getElem _⟩
      have hbl := bit_lt hbit
      refine WL.op (by decide) (R.move rfl) ?_
      refine WL.op (by decide) (R.index1 (v := .bool on) Tryd.underlying89 Tryd.underlying4 rfl sz4 rfl rfl rfl (by omega) (ons_at hon)) ?_
      refine WL.op (by decide) (R.assign rfl) ?_
      refine WL.op (by decide) (R.assign rfl) ?_
      refine WL.next ?_
      refine CW.rseq ?_
      cases on
      · skip
        refine WL.op (by decide) (R.move rfl) ?_
        refine WL.next ?_
        refine CW.condF rfl ?_
        refine CW.skip ?_
        refine EW.inNormal ?_
        refine EW.next ?_
        refine CW.region ?_
        refine WL.op (by decide) (R.add rfl rfl (by omega)) ?_
        refine WL.op (by decide) (R.move rfl) ?_
        refine WL.nil ?_
        exact EW.roundK [1, 3, 21, 22] (k - 1) (by omega) ⟨rfl, i + 1, _, _, by omega, by omega, rfl, flags_off hon hf, hf2⟩
      · skip
        refine WL.op (by decide) (R.move rfl) ?_
        refine WL.next ?_
        refine CW.condT rfl ?_
        refine CW.region ?_
        refine WL.op (by decide) (R.move rfl) ?_
        refine WL.op (by decide) (R.build (parts := [(0, _), (1, _), (2, _)]) (vals := [(0, _), (1, _), (2, _)]) rfl (fun w => build64 _ _ _ w)) ?_
        refine WL.op (by decide) (R.move rfl) ?_
        refine WL.op (by decide) (R.index1 (v := .int .i64 (bit : Nat)) Tryd.underlying64 Tryd.underlying3 rfl sz3 rfl rfl rfl (by omega) (bits_at hbit)) ?_
        refine WL.op (by decide) (R.orN rfl rfl (by omega) (by omega)) ?_
        refine WL.op (by decide) (R.assign rfl) ?_
        refine WL.nil ?_
        refine EW.inNormal ?_
        refine EW.next ?_
        refine CW.region ?_
        refine WL.op (by decide) (R.add rfl rfl (by omega)) ?_
        refine WL.op (by decide) (R.move rfl) ?_
        refine WL.nil ?_
        exact EW.roundK [1, 3, 21, 22] (k - 1) (by omega) ⟨rfl, i + 1, _, _, by omega, by omega, rfl, flags_on hon hbit hf, Nat.or_lt_two_pow (n := 16) hf2 hbl⟩
    · skip
      refine WL.next ?_
      refine CW.seq ?_
      refine CW.condF rfl ?_
      refine CW.exit ?_
      refine EW.thenExit ?_
      refine EW.thenExit ?_
      refine EW.inHere ?_
      refine EW.next ?_
      refine CW.rseq ?_
      obtain rfl : i = 3 := by omega
      refine WL.eff rfl (OP.makeMap (by decide) ?_)
      intro w2 hc2 hs2 hmp0
      obtain ⟨mb, he_mb⟩ : ∃ b, b = w1.heap.size := ⟨_, rfl⟩
      rw [← he_mb] at hmp0 ⊢
      have hBm := hc2.at hBm (fun h => h)
      have hC := hC.trans hc2
      refine WL.op (by decide) (R.build (parts := [(1, _)]) (vals := [(1, _)]) rfl (fun w => build93 _ w)) ?_
      refine WL.eff rfl (OP.box (by decide) rfl ?_)
      intro w3 hc3 hs3 hW0
      obtain ⟨wb, he_wb⟩ : ∃ b, b = w2.heap.size := ⟨_, rfl⟩
      obtain ⟨base, he_base⟩ : ∃ b, b = w3.heap.size := ⟨_, rfl⟩
      have hW : w3.heap[wb]? = some (.cells #[.slice none 0 0, .map (some mb)] 93 (0, 0)) := by rw [he_wb]; exact hW0
      rw [← he_wb]
      have hM : WMap w3 mb [] := (WMap.made hmp0).kept hc3 (fun h => h)
      have hB : Buf w3 base (.slice none 0 0) [] := World.ownsRow_nil _ _ _ _
      have hBm := hc3.at hBm (fun h => h)
      have hC := hC.trans hc3
      have hgt : base ≤ w3.heap.size := by omega
      refine WL.op (by decide) (R.assign rfl) ?_
      refine WL.next ?_
      refine CW.seq ?_
      refine CW.rseq ?_
      refine WL.op (by decide) (FA33_0 rfl) ?_
      refine WL.op (by decide) (R.load Tryd.underlying3 rfl rfl (cell_at hBm rfl)) ?_
      refine WL.op (by decide) (R.move rfl) ?_
      refine WL.op (by decide) (FA33_6 rfl) ?_
      refine WL.op (by decide) (R.load Tryd.underlying31 rfl rfl (cell_at hBm rfl)) ?_
      refine WL.op (by decide) (R.lenSlice rfl Tryd.underlying31 rfl) ?_
      refine WL.op (by decide) (FA33_7 rfl) ?_
      refine WL.op (by decide) (R.load Tryd.underlying31 rfl rfl (cell_at hBm rfl)) ?_
      refine WL.op (by decide) (R.lenSlice rfl Tryd.underlying31 rfl) ?_
      refine WL.op (by decide) (R.build (parts := [(0, _), (1, _), (2, _), (3, _), (4, _), (5, _)]) (vals := [(0, _), (1, _), (2, _), (3, _), (4, _), (5, _)]) rfl (fun w => build94 _ _ _ _ _ _ w)) ?_
      refine WL.op (by decide) (R.move rfl) ?_
      refine WL.next ?_
      refine CW.block ?_
      refine CW.loopK [1, 6, 45, 46] (fun k l wr => ∃ (i : Nat) (ii : Int) (v : Value), i + k = 6 ∧ ii = (i : Int) ∧ l = [(1, .pointer (some ⟨bm, 0, none⟩)), (6, .pointer (some ⟨wb, 0, none⟩)), (45, .agg ((headNums m).map (Value.int .i64)).toArray), (46, .int .i64 ii)] ∧ wr.heap[wb]? = some (.cells #[v, .map (some mb)] 93 (0, 0)) ∧ Buf wr base v (((headNums m).take i).flatMap (beN 2)) ∧ WMap wr mb [] ∧ Chg (fun _ => False) w wr ∧ base ≤ wr.heap.size ∧ wr.heap[bm]? = some (.cells (m.cells (.slice Aa m.ans.length ca) (.slice Ab m.auth.length cb)).toArray 33 (0, 0)) ∧ (((headNums m).take i).flatMap (beN 2)).length = 2 * i) (6) ?_ ?_
      · exact ⟨0, 0, _, by omega, rfl, by rw [headNums_eq hf]; rfl, hW, hB, hM, hC, hgt, hBm, rfl⟩
      · rintro k l wr ⟨i, ii, v, hik, rfl, rfl, hW, hB, hM, hC, hgt, hBm, hbl⟩
        refine CW.rseq ?_
        refine WL.lssS (by decide) rfl rfl (fun h2 => ?_) (fun h2 => ?_)
        · skip
          refine WL.next ?_
          refine CW.seq ?_
          refine CW.condT rfl ?_
          refine CW.skip ?_
          refine EW.next ?_
          refine CW.seq ?_
          refine CW.block ?_
          refine CW.rseq ?_
          obtain ⟨q, hq⟩ : ∃ q, (headNums m)[i]? = some q := ⟨(headNums m)[i]'(by rw [headNums_length]; omega), List.getElem?_eq_getElem _⟩
          refine WL.op (by decide) (R.index1 (v := .int .i64 q) Tryd.underlying94 Tryd.underlying3 rfl sz3 rfl rfl rfl (by omega) (nums_at hq)) ?_
          refine WL.op (by decide) (R.assign rfl) ?_
          refine WL.next ?_
          refine CW.region ?_
          refine WL.op (by decide) (R.move rfl) ?_
          refine WL.op (by decide) (R.move rfl) ?_
          refine WL.op (by decide) (R.nilCheck rfl) ?_
          refine WL.op (by decide) (FA93_0 rfl) ?_
          refine WL.op (by decide) (R.load Tryd.underlying36 rfl rfl (cell_at hW rfl)) ?_
          refine WL.op (by decide) (R.move rfl) ?_
          refine WL.eff rfl (OP.call (by decide) Tryd.func42 (by kernel_rfl) (by kernel_rfl) rfl (put_any base _ _ 2 _ _ (by decide) hB (by omega) (by first | omega | (simp only [List.length_append, beN_length, List.length_cons, List.length_nil]; omega))) ?_)
          rintro ed w10 ⟨vw10, rfl, hB2, hMv⟩
          refine ⟨_, rfl, ?_⟩
          have hcm := Chg.moved hMv
          have hW := hcm.at hW (fun e => by have := hB.lt _ e.symm; omega)
          have hM := hM.kept hcm (fun e => by have := hB.lt _ e.symm; omega)
          have hBm := hcm.at hBm (fun e => by have := hB.lt _ e.symm; omega)
          have hC := hC.then hcm (fun k hk e => by have := hB.lt _ e.symm; omega)
          have hgt := Nat.le_trans hgt hcm.size
          have hB := hB2
          clear hB2 hMv
          refine WL.op (by decide) (R.nilCheck rfl) ?_
          refine WL.op (by decide) (FA93_0 rfl) ?_
          refine WL.eff rfl (OP.store1 sz36 rfl rfl hB.one.1 hB.one.2 hW (Nat.le_of_ble_eq_true rfl) rfl ?_)
          intro w11 hc11 _ hW
          have hM := hM.kept hc11 (fun e => by omega)
          have hB := hB.kept hc11 (fun k hk e => by have := hB.lt k hk; omega)
          have hBm := hc11.at hBm (by omega)
          have hC := hC.then hc11 (fun k hk e => by omega)
          have hgt := Nat.le_trans hgt hc11.size
          refine WL.nil ?_
          refine EW.inNormal ?_
          refine EW.next ?_
          refine CW.region ?_
          refine WL.op (by decide) (R.add rfl rfl (by omega)) ?_
          refine WL.op (by decide) (R.move rfl) ?_
          refine WL.nil ?_
          exact EW.roundK [1, 6, 45, 46] (k - 1) (by omega) ⟨i + 1, _, _, by omega, by omega, rfl, hW, by rw [nums_take hq]; exact hB, hM, hC, hgt, hBm, by rw [nums_take hq, List.length_append, hbl, beN_length]; omega⟩
        · skip
          refine WL.next ?_
          refine CW.seq ?_
          refine CW.condF rfl ?_
          refine CW.exit ?_
          obtain rfl : i = 6 := by omega
          rw [List.take_of_length_le (by rw [headNums_length]; omega)] at hbl hB
          refine EW.thenExit ?_
          refine EW.thenExit ?_
          refine EW.inHere ?_
          refine EW.next ?_
          refine CW.rseq ?_
          refine WL.op (by decide) (R.move rfl) ?_
          refine WL.op (by decide) (FA33_5 rfl) ?_
          refine WL.op (by decide) (FA25_0 rfl) ?_
          refine WL.op (by decide) (R.load Tryd.underlying9 rfl rfl (cell_at hBm rfl)) ?_
          refine WL.eff rfl (OP.call (by decide) Tryd.func43 (by kernel_rfl) (by kernel_rfl) rfl (wname_any wb mb base _ ((headNums m).flatMap (beN 2), []) m.qname _ ⟨hW, hB, hM⟩ (by omega) (by omega) (by omega) (by omega) (by show (List.flatMap (beN 2) (headNums m)).length ≤ _; omega) (by omega)) ?_)
          rintro ed w12 ⟨rfl, vn, ⟨hW, hB2, hM⟩, hc12, hown⟩
          refine ⟨_, rfl, ?_⟩
          have hBm := hc12.at hBm (fun e => by rcases e with e | e | e <;> first | omega | (have := hB.lt _ e.symm; omega))
          have hC := hC.then hc12 (fun k hk e => by rcases e with e | e | e <;> first | omega | (have := hB.lt _ e.symm; omega))
          have hgt := Nat.le_trans hgt hc12.size
          have hB := hB2
          clear hB2
          have hln := wrName_length m.qname ((headNums m).flatMap (beN 2), [])
          simp only at hln
          refine WL.next ?_
          refine CW.seq ?_
          refine CW.draw (fun w0 => w0.heap[bm]? = some (.cells (m.cells (.slice Aa m.ans.length ca) (.slice Ab m.auth.length cb)).toArray 33 (0, 0))) (by kernel_rfl) ?_
          have hC := hC.trans (Chg.drew _ _)
          have hM := hM.kept (Chg.drew (fun _ => False) _) (fun h => h)
          have hB := hB.kept (Chg.drew (fun _ => False) _) (fun _ _ h => h)
          have hgt := Nat.le_trans hgt (Chg.drew (fun _ => False) _).size
          refine AH.take 0 rfl (by kernel_rfl) (by kernel_rfl) (by kernel_rfl) (fun _ _ _ _ h => h) hBm (by decide) (fun w hS => R.move rfl) ?_
          refine AH.take 1 rfl (by kernel_rfl) (by kernel_rfl) (by kernel_rfl) (fun _ _ _ _ h => h) hBm (by decide) (fun w hS => R.move rfl) ?_
          refine AH.take 2 rfl (by kernel_rfl) (by kernel_rfl) (by kernel_rfl) (fun _ _ _ _ h => h) hBm (by decide) (fun w hS => R.nilCheck rfl) ?_
          refine AH.take 3 rfl (by kernel_rfl) (by kernel_rfl) (by kernel_rfl) (fun _ _ _ _ h => h) hBm (by decide) (fun w hS => FA93_0 rfl) ?_
          refine AH.take 5 rfl (by kernel_rfl) (by kernel_rfl) (by kernel_rfl) (fun _ _ _ _ h => h) hBm (by decide) (fun w hS => FA33_5 rfl) ?_
          refine AH.take 6 rfl (by kernel_rfl) (by kernel_rfl) (by kernel_rfl) (fun _ _ _ _ h => h) hBm (by decide) (fun w hS => FA25_1 rfl) ?_
          refine AH.take 7 rfl (by kernel_rfl) (by kernel_rfl) (by kernel_rfl) (fun _ _ _ _ h => h) hBm (by decide) (fun w hS => R.load Tryd.underlying3 rfl rfl (cell_at hS rfl)) ?_
          refine AH.eff 4 (by kernel_rfl) rfl rfl (OP.val (by decide) (R.load Tryd.underlying36 rfl rfl (cell_at hW rfl)) ?_)
          refine ⟨hBm, ?_⟩
          refine AH.eff 8 (by kernel_rfl) rfl rfl (OP.call (by decide) Tryd.func42 (by kernel_rfl) (by kernel_rfl) rfl (put_any base _ _ 2 _ _ (by decide) hB (by omega) (by first | omega | (simp only [List.length_append, beN_length, List.length_cons, List.length_nil]; omega))) ?_)
          rintro ed w13 ⟨vw13, rfl, hB2, hMv⟩
          refine ⟨_, rfl, (Chg.moved hMv).at hBm (fun e => by have := hB.lt _ e.symm; omega), ?_⟩
          have hcm := Chg.moved hMv
          have hW := hcm.at hW (fun e => by have := hB.lt _ e.symm; omega)
          have hM := hM.kept hcm (fun e => by have := hB.lt _ e.symm; omega)
          have hBm := hcm.at hBm (fun e => by have := hB.lt _ e.symm; omega)
          have hC := hC.then hcm (fun k hk e => by have := hB.lt _ e.symm; omega)
          have hgt := Nat.le_trans hgt hcm.size
          have hB := hB2
          clear hB2 hMv
          refine AH.eff 9 (by kernel_rfl) rfl rfl (OP.call (by decide) Tryd.func42 (by kernel_rfl) (by kernel_rfl) rfl (put_any base _ _ 2 _ _ (by decide) hB (by omega) (by first | omega | (simp only [List.length_append, beN_length]; omega))) ?_)
          rintro ed w14 ⟨vw14, rfl, hB2, hMv⟩
          refine ⟨_, rfl, (Chg.moved hMv).at hBm (fun e => by have := hB.lt _ e.symm; omega), ?_⟩
          have hcm := Chg.moved hMv
          have hW := hcm.at hW (fun e => by have := hB.lt _ e.symm; omega)
          have hM := hM.kept hcm (fun e => by have := hB.lt _ e.symm; omega)
          have hBm := hcm.at hBm (fun e => by have := hB.lt _ e.symm; omega)
          have hC := hC.then hcm (fun k hk e => by have := hB.lt _ e.symm; omega)
          have hgt := Nat.le_trans hgt hcm.size
          have hB := hB2
          clear hB2 hMv
          refine AH.eff 10 (by kernel_rfl) rfl rfl (OP.val (by decide) (R.nilCheck rfl) ?_)
          refine ⟨hBm, ?_⟩
          refine AH.eff 11 (by kernel_rfl) rfl rfl (OP.val (by decide) (FA93_0 rfl) ?_)
          refine ⟨hBm, ?_⟩
          refine AH.eff 12 (by kernel_rfl) rfl rfl (OP.store1 sz36 rfl rfl hB.one.1 hB.one.2 hW (Nat.le_of_ble_eq_true rfl) rfl ?_)
          intro w15 hc15 _ hW
          have hM := hM.kept hc15 (fun e => by omega)
          have hB := hB.kept hc15 (fun k hk e => by have := hB.lt k hk; omega)
          have hBm := hc15.at hBm (by omega)
          have hC := hC.then hc15 (fun k hk e => by omega)
          have hgt := Nat.le_trans hgt hc15.size
          refine ⟨hBm, ?_⟩
          refine AH.done (by kernel_rfl) ?_
          obtain ⟨st1, hst1⟩ : ∃ s, s = ((wrName m.qname ((headNums m).flatMap (beN 2), [])).1 ++ beN 2 m.qtype ++ beN 2 1, (wrName m.qname ((headNums m).flatMap (beN 2), [])).2) := ⟨_, rfl⟩
          have hB := (congrArg (fun s : List UInt8 × At => Buf w15 base vw14 s.1) hst1).mpr hB
          have hM := (congrArg (fun s : List UInt8 × At => WMap w15 mb s.2) hst1).mpr hM
          have hst1l : st1.1.length ≤ 200000 := by rw [hst1]; simp only [List.length_append, beN_length]; omega
          refine EW.next ?_
          refine CW.seq ?_
          refine CW.rseq ?_
          refine WL.op (by decide) (FA33_6 rfl) ?_
          refine WL.op (by decide) (R.load Tryd.underlying31 rfl rfl (cell_at hBm rfl)) ?_
          refine WL.op (by decide) (R.lenSlice rfl Tryd.underlying31 rfl) ?_
          refine WL.op (by decide) (R.move rfl) ?_
          refine WL.next ?_
          refine CW.block ?_
          refine CW.loopK [1, 6, 77, 78, 79] (fun k l wr => ∃ (j : Nat) (jj : Int) (v : Value), j + k = m.ans.length ∧ jj = (j : Int) ∧ l = [(1, .pointer (some ⟨bm, 0, none⟩)), (6, .pointer (some ⟨wb, 0, none⟩)), (77, .slice Aa m.ans.length ca), (78, .int .i64 m.ans.length), (79, .int .i64 jj)] ∧ WSt wr wb mb base v (wrRecs (m.ans.take j) st1) ∧ Chg (fun _ => False) w wr ∧ base ≤ wr.heap.size ∧ wr.heap[bm]? = some (.cells (m.cells (.slice Aa m.ans.length ca) (.slice Ab m.auth.length cb)).toArray 33 (0, 0)) ∧ (wrRecs (m.ans.take j) st1).1.length ≤ 200000 + j * 400000) (m.ans.length) ?_ ?_
          · exact ⟨0, 0, _, by omega, rfl, rfl, ⟨hW, hB, hM⟩, hC, hgt, hBm, by show st1.1.length ≤ _; omega⟩
          · rintro k l wr ⟨j, jj, v, hjk, rfl, rfl, ⟨hW, hB, hM⟩, hC, hgt, hBm, hlb⟩
            refine CW.rseq ?_
            refine WL.lssS (by decide) rfl rfl (fun h3 => ?_) (fun h3 => ?_)
            · skip
              refine WL.next ?_
              refine CW.seq ?_
              refine CW.condT rfl ?_
              refine CW.skip ?_
              refine EW.next ?_
              refine CW.seq ?_
              refine CW.block ?_
              refine CW.rseq ?_
              obtain ⟨x, hx⟩ : ∃ x, m.ans[j]? = some x := ⟨m.ans[j]'(by omega), List.getElem?_eq_getElem _⟩
              have hsl := hva.kept hC (fun _ _ h => h)
              obtain ⟨hx16, _, g, o, rfl, hcell⟩ := hsl.at hx
              obtain ⟨hx1, hx2, hx3⟩ := hsm x (List.mem_append_left _ (List.mem_of_getElem? hx))
              refine WL.op (by decide) (R.indexAddr1 (i := j) Tryd.underlying31 sz57 rfl rfl rfl (by omega)) ?_
              refine WL.op (by decide) (R.loadR hx16 rfl hcell) ?_
              refine WL.eff rfl (OP.allocR (by decide) ?_)
              intro w3 hc3 hs3 hb3
              refine WL.eff rfl (OP.storeR rfl rfl hx16 (by rfl) hb3 ?_)
              intro w4 hc4 hs4 hb4
              have hc34 : Chg (fun _ => False) wr w4 := hc3.then hc4 (fun k hk e => by omega)
              have hW := hc34.at hW (fun h => h)
              have hB := hB.kept hc34 (fun _ _ h => h)
              have hM := hM.kept hc34 (fun h => h)
              have hBm := hc34.at hBm (fun h => h)
              have hC := hC.trans hc34
              have hgt := Nat.le_trans hgt hc34.size
              refine WL.next ?_
              refine CW.region ?_
              refine WL.op (by decide) (R.move rfl) ?_
              refine WL.op (by decide) (R.loadRB hx16 rfl hb4) ?_
              have hwl := wrRec_length x (wrRecs (m.ans.take j) st1) hx16
              refine WL.eff rfl (OP.call (by decide) Tryd.func44 (by kernel_rfl) (by kernel_rfl) rfl (wrec_any wb mb base _ _ x w4 ⟨hW, hB, hM⟩ hx16 (by omega) (by omega) (by omega) hgt (by omega) hx1 hx2 hx3) ?_)
              rintro ed w5 ⟨rfl, v2, hW2, hc5, hown⟩
              refine ⟨_, rfl, ?_⟩
              have hBm := hc5.at hBm (fun e => by rcases e with e | e | e <;> first | omega | (have := hB.lt _ e.symm; omega))
              have hC := hC.then hc5 (fun k hk e => by rcases e with e | e | e <;> first | omega | (have := hB.lt _ e.symm; omega))
              have hgt := Nat.le_trans hgt hc5.size
              refine WL.nil ?_
              refine EW.inNormal ?_
              refine EW.next ?_
              refine CW.region ?_
              refine WL.op (by decide) (R.add rfl rfl (by omega)) ?_
              refine WL.op (by decide) (R.move rfl) ?_
              refine WL.nil ?_
              exact EW.roundK [1, 6, 77, 78, 79] (k - 1) (by omega) ⟨j + 1, _, _, by omega, by omega, rfl, by rw [wrRecs_take hx]; exact hW2, hC, hgt, hBm, by rw [wrRecs_take hx]; omega⟩
            · skip
              refine WL.next ?_
              refine CW.seq ?_
              refine CW.condF rfl ?_
              refine CW.exit ?_
              obtain rfl : j = m.ans.length := by omega
              rw [List.take_of_length_le (Nat.le_refl _)] at hlb hB hM
              refine EW.thenExit ?_
              refine EW.thenExit ?_
              refine EW.inHere ?_
              refine EW.next ?_
              refine CW.seq ?_
              refine CW.rseq ?_
              refine WL.op (by decide) (FA33_7 rfl) ?_
              refine WL.op (by decide) (R.load Tryd.underlying31 rfl rfl (cell_at hBm rfl)) ?_
              refine WL.op (by decide) (R.lenSlice rfl Tryd.underlying31 rfl) ?_
              refine WL.op (by decide) (R.move rfl) ?_
              refine WL.next ?_
              refine CW.block ?_
              refine CW.loopK [1, 6, 88, 89, 90] (fun k l wr => ∃ (j : Nat) (jj : Int) (v : Value), j + k = m.auth.length ∧ jj = (j : Int) ∧ l = [(1, .pointer (some ⟨bm, 0, none⟩)), (6, .pointer (some ⟨wb, 0, none⟩)), (88, .slice Ab m.auth.length cb), (89, .int .i64 m.auth.length), (90, .int .i64 jj)] ∧ WSt wr wb mb base v (wrRecs (m.auth.take j) (wrRecs m.ans st1)) ∧ Chg (fun _ => False) w wr ∧ base ≤ wr.heap.size ∧ wr.heap[bm]? = some (.cells (m.cells (.slice Aa m.ans.length ca) (.slice Ab m.auth.length cb)).toArray 33 (0, 0)) ∧ (wrRecs (m.auth.take j) (wrRecs m.ans st1)).1.length ≤ (wrRecs m.ans st1).1.length + j * 400000) (m.auth.length) ?_ ?_
              · exact ⟨0, 0, _, by omega, rfl, rfl, ⟨hW, hB, hM⟩, hC, hgt, hBm, by show (wrRecs m.ans st1).1.length ≤ _; omega⟩
              · rintro k l wr ⟨j, jj, v, hjk, rfl, rfl, ⟨hW, hB, hM⟩, hC, hgt, hBm, hlb⟩
                refine CW.rseq ?_
                refine WL.lssS (by decide) rfl rfl (fun h4 => ?_) (fun h4 => ?_)
                · skip
                  refine WL.next ?_
                  refine CW.seq ?_
                  refine CW.condT rfl ?_
                  refine CW.skip ?_
                  refine EW.next ?_
                  refine CW.seq ?_
                  refine CW.block ?_
                  refine CW.rseq ?_
                  obtain ⟨x, hx⟩ : ∃ x, m.auth[j]? = some x := ⟨m.auth[j]'(by omega), List.getElem?_eq_getElem _⟩
                  have hsl := hvb.kept hC (fun _ _ h => h)
                  obtain ⟨hx16, _, g, o, rfl, hcell⟩ := hsl.at hx
                  obtain ⟨hx1, hx2, hx3⟩ := hsm x (List.mem_append_right _ (List.mem_of_getElem? hx))
                  refine WL.op (by decide) (R.indexAddr1 (i := j) Tryd.underlying31 sz57 rfl rfl rfl (by omega)) ?_
                  refine WL.op (by decide) (R.loadR hx16 rfl hcell) ?_
                  refine WL.eff rfl (OP.allocR (by decide) ?_)
                  intro w3 hc3 hs3 hb3
                  refine WL.eff rfl (OP.storeR rfl rfl hx16 (by rfl) hb3 ?_)
                  intro w4 hc4 hs4 hb4
                  have hc34 : Chg (fun _ => False) wr w4 := hc3.then hc4 (fun k hk e => by omega)
                  have hW := hc34.at hW (fun h => h)
                  have hB := hB.kept hc34 (fun _ _ h => h)
                  have hM := hM.kept hc34 (fun h => h)
                  have hBm := hc34.at hBm (fun h => h)
                  have hC := hC.trans hc34
                  have hgt := Nat.le_trans hgt hc34.size
                  refine WL.next ?_
                  refine CW.region ?_
                  refine WL.op (by decide) (R.move rfl) ?_
                  refine WL.op (by decide) (R.loadRB hx16 rfl hb4) ?_
                  have hwl := wrRec_length x (wrRecs (m.auth.take j) (wrRecs m.ans st1)) hx16
                  refine WL.eff rfl (OP.call (by decide) Tryd.func44 (by kernel_rfl) (by kernel_rfl) rfl (wrec_any wb mb base _ _ x w4 ⟨hW, hB, hM⟩ hx16 (by omega) (by omega) (by omega) hgt (by omega) hx1 hx2 hx3) ?_)
                  rintro ed w5 ⟨rfl, v2, hW2, hc5, hown⟩
                  refine ⟨_, rfl, ?_⟩
                  have hBm := hc5.at hBm (fun e => by rcases e with e | e | e <;> first | omega | (have := hB.lt _ e.symm; omega))
                  have hC := hC.then hc5 (fun k hk e => by rcases e with e | e | e <;> first | omega | (have := hB.lt _ e.symm; omega))
                  have hgt := Nat.le_trans hgt hc5.size
                  refine WL.nil ?_
                  refine EW.inNormal ?_
                  refine EW.next ?_
                  refine CW.region ?_
                  refine WL.op (by decide) (R.add rfl rfl (by omega)) ?_
                  refine WL.op (by decide) (R.move rfl) ?_
                  refine WL.nil ?_
                  exact EW.roundK [1, 6, 88, 89, 90] (k - 1) (by omega) ⟨j + 1, _, _, by omega, by omega, rfl, by rw [wrRecs_take hx]; exact hW2, hC, hgt, hBm, by rw [wrRecs_take hx]; omega⟩
                · skip
                  refine WL.next ?_
                  refine CW.seq ?_
                  refine CW.condF rfl ?_
                  refine CW.exit ?_
                  obtain rfl : j = m.auth.length := by omega
                  rw [List.take_of_length_le (Nat.le_refl _)] at hlb hB hM
                  refine EW.thenExit ?_
                  refine EW.thenExit ?_
                  refine EW.inHere ?_
                  refine EW.next ?_
                  refine CW.rseq ?_
                  refine WL.op (by decide) (R.move rfl) ?_
                  refine WL.op (by decide) (R.nilCheck rfl) ?_
                  refine WL.op (by decide) (FA93_0 rfl) ?_
                  refine WL.op (by decide) (R.load Tryd.underlying36 rfl rfl (cell_at hW rfl)) ?_
                  refine WL.op (by decide) (R.assign rfl) ?_
                  refine WL.next ?_
                  refine CW.ret ?_
                  exact EW.ret1 (.inl rfl) rfl rfl ⟨_, rfl, by rw [enc_eq hst1]; exact hB.mono (by omega), hC⟩
end Go.Proofs.YthcpjcgjmdfpjaaDoor

namespace Go.Proofs.YthcpjcgjmdfpjaaDoor
open Go Go.RowKit
set_option maxRecDepth 100000
section
variable {l : Env} {w : World} {x y : Operand} {t ty : TypeId} {v : Value} {P : Program}

theorem binOp_mask (t : TypeId) (k : Nat) (hk : k ≤ 62) (n : Int) : binOp .and t (.int .i64 n) (.int .i64 ((2 ^ k - 1 : Nat) : Int)) = pure (.int .i64 (n % ((2 ^ k : Nat) : Int))) := by
  simp only [binOp, Op.intBits, ne_eq, not_true, ite_false]
  have hp : 2 ^ k ≤ 2 ^ 62 := Nat.pow_le_pow_right (by decide) hk
  have h0 : 0 < 2 ^ k := Nat.two_pow_pos k
  have e1 : (BitVec.ofInt IntKind.i64.bits n).toNat = (n % (2 ^ 64 : Nat)).toNat := by
    show (BitVec.ofInt 64 n).toNat = _
    rw [BitVec.toNat_ofInt]
  have e2 : (BitVec.ofInt IntKind.i64.bits ((2 ^ k - 1 : Nat) : Int)).toNat = 2 ^ k - 1 := by
    show (BitVec.ofInt 64 ((2 ^ k - 1 : Nat) : Int)).toNat = _
    rw [BitVec.toNat_ofInt]
    have : ((2 ^ k - 1 : Nat) : Int) % ((2 ^ 64 : Nat) : Int) = ((2 ^ k - 1 : Nat) : Int) := Int.emod_eq_of_lt (by omega) (by omega)
    rw [this, Int.toNat_natCast]
  have e : (BitVec.ofInt IntKind.i64.bits n &&& BitVec.ofInt IntKind.i64.bits ((2 ^ k - 1 : Nat) : Int)).toNat = (n % (2 ^ 64 : Nat)).toNat % 2 ^ k := by
    rw [BitVec.toNat_and, e1, e2]
    exact Nat.and_two_pow_sub_one_eq_mod _ k
  have e3 : (((n % (2 ^ 64 : Nat)).toNat % 2 ^ k : Nat) : Int) = n % ((2 ^ k : Nat) : Int) := by
    rw [Int.natCast_emod, Int.toNat_of_nonneg (Int.emod_nonneg _ (by decide))]
    exact Int.emod_emod_of_dvd _ (by
      have : (2 : Nat) ^ k ∣ 2 ^ 64 := Nat.pow_dvd_pow 2 (by omega)
      exact Int.natCast_dvd_natCast.2 this)
  rw [e, e3]
  have h1 : 0 ≤ n % ((2 ^ k : Nat) : Int) := Int.emod_nonneg _ (by omega)
  have h2 : n % ((2 ^ k : Nat) : Int) < ((2 ^ k : Nat) : Int) := Int.emod_lt_of_pos _ (by omega)
  rw [IntWalk.i64_in _ (by omega)]
theorem R.mask (k : Nat) {n m q : Int} (hx : ev l x = some (.int .i64 n)) (hy : ev l y = some (.int .i64 m)) (hk : k ≤ 62) (hm : m = ((2 ^ k - 1 : Nat) : Int)) (hq : q = ((2 ^ k : Nat) : Int)) : Runs P l (.binOp .and t x y ty) w (.int .i64 (n % q)) w := by
  subst hm hq
  exact R.bin hx hy (binOp_mask t k hk n)
theorem R.conv342 {a : Int} (hx : ev l x = some (.int .i64 a)) : Runs Tryd.prog l (.convert 3 42 x) w (.int .u64 (a % 18446744073709551616)) w :=
  R.convInt (P := Tryd.prog) Tryd.underlying3 Tryd.underlying42 hx (IntKind.wrap_u64 a)
theorem R.conv423 {a : Int} (hx : ev l x = some (.int .u64 a)) (h : 0 ≤ a ∧ a < 9223372036854775808) : Runs Tryd.prog l (.convert 42 3 x) w (.int .i64 a) w :=
  R.convInt (P := Tryd.prog) Tryd.underlying42 Tryd.underlying3 hx (IntWalk.i64_in _ (by omega))
theorem R.shrU {a b : Int} (hx : ev l x = some (.int .u64 a)) (hy : ev l y = some (.int .u64 b)) (h : 0 ≤ b ∧ b ≤ 64) : Runs P l (.binOp .shr t x y ty) w (.int .u64 (a / 2 ^ b.toNat)) w :=
  R.binS hx hy (by
    have h1 : ¬ b < 0 := by omega
    have h2 : min b.toNat IntKind.u64.bits = b.toNat := by simp only [IntKind.bits]; omega
    have h3 : a.fdiv (2 ^ b.toNat) = a / 2 ^ b.toNat := Int.fdiv_eq_ediv_of_nonneg _ (Int.le_of_lt (Int.pow_pos (by decide)))
    simp only [binOp, Op.shift, h1, if_false, h2, h3])
theorem R.rem {a b : Int} (hx : ev l x = some (.int .i64 a)) (hy : ev l y = some (.int .i64 b)) (h : b ≠ 0) : Runs P l (.binOp .rem t x y ty) w (.int .i64 (a.tmod b)) w :=
  R.bin hx hy (by simp [binOp, Op.intDiv, h])
theorem R.remN {a b : Int} (hx : ev l x = some (.int .i64 a)) (hy : ev l y = some (.int .i64 b)) (h : b ≠ 0) (ha : 0 ≤ a) : Runs P l (.binOp .rem t x y ty) w (.int .i64 (a % b)) w := by
  have := R.rem (P := P) (w := w) (t := t) (ty := ty) hx hy h
  rwa [Int.tmod_eq_emod_of_nonneg ha] at this

/-- '==' of questions. -/
theorem run_equalIn_q (d : Nat) (a b : List UInt8) (m n : Int) (w : World) : (Op.equalIn (d + 2) 25 (.agg #[sv a, .int .i64 m]) (.agg #[sv b, .int .i64 n])).run Tryd.prog w = .ok (decide (a = b ∧ m = n)) w := by
  rw [run_equalIn_struct w (d + 1) 25 _ _ Tryd.underlying25 (by kernel_rfl)]
  have hf : (Tryd.prog.fieldsOf 25).toList = [{ name := "Name", type := 9, offset := 0, embedded := false, tag := "", pkgPath := "", byteOffset := 0 },
        { name := "Type", type := 3, offset := 1, embedded := false, tag := "", pkgPath := "", byteOffset := 16 }] := by kernel_rfl
  rw [hf]
  rw [eqFields_cons (by decide) (run_part1 Tryd.underlying9 rfl (v := sv a) rfl w) (run_part1 Tryd.underlying9 rfl (v := sv b) rfl w) (run_equalIn_str d a b w)]
  by_cases h1 : a = b
  · rw [decide_eq_true h1, if_pos rfl, eqFields_cons (by decide) (run_part1 Tryd.underlying3 rfl (v := .int .i64 m) rfl w) (run_part1 Tryd.underlying3 rfl (v := .int .i64 n) rfl w) (run_equalIn_i64 d m n w), eqFields_nil]
    by_cases h2 : m = n <;> simp [h1, h2]
  · rw [decide_eq_false h1, if_neg (by simp)]
    simp [h1]
theorem R.eql25 {a b : List UInt8} {m n : Int} {c : Bool} (hx : ev l x = some (.agg #[sv a, .int .i64 m])) (hy : ev l y = some (.agg #[sv b, .int .i64 n])) (h : decide (a = b ∧ m = n) = c) : Runs Tryd.prog l (.binOp .eql 25 x y ty) w (.bool c) w := by
  subst h
  exact R.binAgg (by kernel_rfl) hx hy (by rw [run_eql_struct, run_equalIn_q 9998]; rfl)
theorem R.neq25 {a b : List UInt8} {m n : Int} {c : Bool} (hx : ev l x = some (.agg #[sv a, .int .i64 m])) (hy : ev l y = some (.agg #[sv b, .int .i64 n])) (h : (!decide (a = b ∧ m = n)) = c) : Runs Tryd.prog l (.binOp .neq 25 x y ty) w (.bool c) w := by
  subst h
  exact R.binAgg (by kernel_rfl) hx hy (by rw [run_neq_struct, run_equalIn_q 9998]; rfl)
theorem R.neq57 {a b : Rec} {c : Bool} (ha : a.addr.length = 16) (hb : b.addr.length = 16) (hx : ev l x = some a.val) (hy : ev l y = some b.val) (h : (!decide (a = b)) = c) : Runs Tryd.prog l (.binOp .neq 57 x y ty) w (.bool c) w := by
  subst h
  unfold Rec.val at hx hy
  refine R.binAgg (by kernel_rfl) hx hy ?_
  have := run_equalIn_rec 9997 a b ha hb w
  unfold Rec.val at this
  rw [run_neq_struct, this]; rfl
end

/-- Three that may come up: any first. -/
theorem AH.three {P : Program} {Q : Exit → Act → World → Prop} {n : Nat} {l : Env} {w : World} {ops : Array Oper} {fuel : Nat} {listed : Array Bool} {S : World → Prop} (i j k : Nat) {oi oj ok : Oper} (hr : Region.ready .any ops listed = [i, j, k]) (hi : ops[i]? = some oi) (hj : ops[j]? = some oj) (hk : ops[k]? = some ok) (hgi : oi.guard = none) (hgj : oj.guard = none) (hgk : ok.guard = none)
    (h1 : OP P Q oi n l w (fun l' w' => S w' ∧ AH P ops Q S fuel (listed.setIfInBounds i true) n l' w'))
    (h2 : OP P Q oj n l w (fun l' w' => S w' ∧ AH P ops Q S fuel (listed.setIfInBounds j true) n l' w'))
    (h3 : OP P Q ok n l w (fun l' w' => S w' ∧ AH P ops Q S fuel (listed.setIfInBounds k true) n l' w')) : AH P ops Q S (fuel + 1) listed n l w := by
  intro a ha
  refine wpAnyH_all hr (by simp) ?_
  intro i' hi'
  rcases List.mem_cons.1 hi' with rfl | hi'
  · unfold wpOp
    simp only [hi, Region.wanted, hgi, if_true]
    exact .inl (h1 a ha _ (fun l' w' hM a' ha' => ⟨hM.1, hM.2 a' ha'⟩))
  · rcases List.mem_cons.1 hi' with rfl | hi'
    · unfold wpOp
      simp only [hj, Region.wanted, hgj, if_true]
      exact .inl (h2 a ha _ (fun l' w' hM a' ha' => ⟨hM.1, hM.2 a' ha'⟩))
    · obtain rfl := List.mem_singleton.1 hi'
      unfold wpOp
      simp only [hk, Region.wanted, hgk, if_true]
      exact .inl (h3 a ha _ (fun l' w' hM a' ha' => ⟨hM.1, hM.2 a' ha'⟩))
/-- A question on its way. -/
structure Tr where
  qname : List UInt8
  qtype : Int
  link : Int
  gen : Int
  to : List UInt8
  id : Int
  port : Int
  stream : Bool
  group : Bool
  upto : Int
def Tr.cells (t : Tr) : List Value := sv t.qname :: .int .i64 t.qtype :: .int .i64 t.link :: .int .i64 t.gen :: (t.to.map u8v ++ [.int .i64 t.id, .int .i64 t.port, .bool t.stream, .bool t.group, .int .i64 t.upto])
def Tr.val (t : Tr) : Value := .agg t.cells.toArray
theorem Tr.length {t : Tr} (h : t.to.length = 16) : t.cells.length = 25 := by simp [Tr.cells, h]
theorem Tr.tail {t : Tr} (h : t.to.length = 16) (j : Nat) {u : Value} (hj : ([.int .i64 t.id, .int .i64 t.port, .bool t.stream, .bool t.group, .int .i64 t.upto] : List Value)[j]? = some u) : t.cells.toArray[20 + j]? = some u := by
  rw [List.getElem?_toArray, Nat.add_comm]
  show (t.to.map u8v ++ _)[j + 16]? = _
  rw [List.getElem?_append_right (by simp [h])]
  simp [h, hj]
theorem Tr.at20 {t : Tr} (h : t.to.length = 16) : t.cells.toArray[20]? = some (.int .i64 t.id) := Tr.tail h 0 rfl
theorem Tr.at21 {t : Tr} (h : t.to.length = 16) : t.cells.toArray[21]? = some (.int .i64 t.port) := Tr.tail h 1 rfl
theorem Tr.at22 {t : Tr} (h : t.to.length = 16) : t.cells.toArray[22]? = some (.bool t.stream) := Tr.tail h 2 rfl
theorem Tr.at23 {t : Tr} (h : t.to.length = 16) : t.cells.toArray[23]? = some (.bool t.group) := Tr.tail h 3 rfl
theorem Tr.at24 {t : Tr} (h : t.to.length = 16) : t.cells.toArray[24]? = some (.int .i64 t.upto) := Tr.tail h 4 rfl
theorem Tr.atTo {t : Tr} {j : Nat} {u : Value} (hj : (t.to.map u8v)[j]? = some u) : t.cells.toArray[4 + j]? = some u := by
  have hlt := (List.getElem?_eq_some_iff.1 hj).1
  rw [Nat.add_comm, List.getElem?_toArray]
  show (t.to.map u8v ++ _)[j]? = _
  rw [List.getElem?_append_left hlt]; exact hj
theorem Tr.allOne (t : Tr) : t.cells.toArray.all (·.oneCell') = true := by
  rw [Array.all_eq_true_iff_forall_mem]
  intro u hu
  simp only [Tr.cells, List.mem_toArray, List.mem_cons, List.mem_append, List.mem_map, List.not_mem_nil, or_false] at hu
  rcases hu with rfl | rfl | rfl | rfl | ⟨c, _, rfl⟩ | rfl | rfl | rfl | rfl | rfl <;> rfl
end Go.Proofs.YthcpjcgjmdfpjaaDoor

namespace Go.Proofs.YthcpjcgjmdfpjaaDoor
open Go Go.RowKit
set_option maxRecDepth 100000
set_option maxHeartbeats 4000000

theorem sh16 (n : Int) : 0 ≤ n % 18446744073709551616 / 2 ^ (16 : Int).toNat ∧ n % 18446744073709551616 / 2 ^ (16 : Int).toNat < 9223372036854775808 := by
  have h0 : (2 : Int) ^ (16 : Int).toNat = 65536 := rfl
  rw [h0]; omega
theorem sh16m (n : Int) : 0 ≤ n % 18446744073709551616 / 2 ^ (16 : Int).toNat % 64512 ∧ n % 18446744073709551616 / 2 ^ (16 : Int).toNat % 64512 < 64512 := by
  have := sh16 n
  omega
/-- The number and the port of a draw. -/
def drawId (n : Int) : Int := n % 65536
def drawPort (n : Int) : Int := 1024 + n % 18446744073709551616 / 2 ^ (16 : Int).toNat % 64512
theorem draw_any (n : Int) (w : World) : Calls Tryd.prog 26 #[.int .i64 n] w fun e w' => e = .returned (.tuple #[.int .i64 (drawId n), .int .i64 (drawPort n)]) ∧ w = w' := by
  refine calls_cw (args := [.int .i64 n]) Tryd.func26 rfl rfl ?_
  show CW _ _ _ 12 [(0, .int .i64 n)] w
  refine CW.rseq ?_
  refine WL.op (by decide) (R.assign rfl) ?_
  refine WL.op (by decide) (R.assign rfl) ?_
  refine WL.next ?_
  refine CW.rseq ?_
  refine WL.op (by decide) (R.move rfl) ?_
  refine WL.op (by decide) (R.mask 16 rfl rfl (by decide) rfl rfl) ?_
  refine WL.op (by decide) (R.move rfl) ?_
  refine WL.op (by decide) (R.conv342 rfl) ?_
  refine WL.op (by decide) (R.shrU rfl rfl (by omega)) ?_
  refine WL.op (by decide) (R.conv423 rfl (sh16 n)) ?_
  refine WL.op (by decide) (R.remN rfl rfl (by decide) (sh16 n).1) ?_
  refine WL.op (by decide) (R.add rfl rfl (by have := sh16m n; omega)) ?_
  refine WL.op (by decide) (R.assign rfl) ?_
  refine WL.op (by decide) (R.assign rfl) ?_
  refine WL.next ?_
  refine CW.ret ?_
  exact EW.ret2 (.inl rfl) rfl rfl rfl ⟨rfl, rfl⟩
/-- The few names of the laws. -/
def namesA : List (List UInt8) := [[97], [98, 46, 97], [119, 119, 119, 46, 98, 46, 97], [120, 110, 45, 45, 98, 99, 104, 101, 114, 45, 107, 118, 97, 46, 100, 101], [120, 95, 121, 46, 99, 111, 114, 112], [48], [99, 111, 114, 112], [99, 46, 98, 46, 97]]
def nameN (n : Int) : List UInt8 := (namesA[(n % 8).toNat]?).getD []
theorem nameN_at (n : Int) : namesA[(n % 8).toNat]? = some (nameN n) := by
  have h : (n % 8).toNat < namesA.length := by show _ < 8; omega
  unfold nameN
  rw [List.getElem?_eq_getElem h]; rfl
theorem nameN_mem (n : Int) : nameN n ∈ namesA := List.mem_of_getElem? (nameN_at n)
theorem buildSlice_names (w : World) : (Instr.buildSlice 80 8 #[(0, .string ⟨#[97]⟩), (1, .string ⟨#[98, 46, 97]⟩), (2, .string ⟨#[119, 119, 119, 46, 98, 46, 97]⟩), (3, .string ⟨#[120, 110, 45, 45, 98, 99, 104, 101, 114, 45, 107, 118, 97, 46, 100, 101]⟩), (4, .string ⟨#[120, 95, 121, 46, 99, 111, 114, 112]⟩), (5, .string ⟨#[48]⟩), (6, .string ⟨#[99, 111, 114, 112]⟩), (7, .string ⟨#[99, 46, 98, 46, 97]⟩)]).run Tryd.prog w = .ok (.slice (some ⟨w.heap.size, 0, none⟩) 8 8) (w.alloc (.cells (namesA.map sv).toArray 9)) := by kernel_rfl
theorem name_any (n : Int) (w : World) : Calls Tryd.prog 33 #[.int .i64 n] w fun e w' => e = .returned (sv (nameN n)) ∧ Chg (fun _ => False) w w' := by
  refine calls_cw (args := [.int .i64 n]) Tryd.func33 rfl rfl ?_
  show CW _ _ _ 8 [(0, .int .i64 n)] w
  refine CW.rseq ?_
  refine WL.op (by decide) (R.assign rfl) ?_
  refine WL.next ?_
  refine CW.rseq ?_
  refine WL.eff rfl (OP.buildSlice (parts := [(0, _), (1, _), (2, _), (3, _), (4, _), (5, _), (6, _), (7, _)]) (vals := [(0, _), (1, _), (2, _), (3, _), (4, _), (5, _), (6, _), (7, _)]) (cells := (namesA.map sv).toArray) (ty := 9) (by decide) rfl buildSlice_names ?_)
  intro w1 hc1 hs1 hb1
  refine WL.op (by decide) (R.move rfl) ?_
  refine WL.op (by decide) (R.mask 3 rfl rfl (by decide) rfl rfl) ?_
  refine WL.op (by decide) (R.indexAddr1 (i := (n % 8).toNat) Tryd.underlying80 sz9 rfl rfl (by omega) (by omega)) ?_
  refine WL.op (by decide) (R.load Tryd.underlying9 rfl rfl (by rw [Nat.zero_add, Nat.mul_one]; exact cell_at hb1 (by rw [List.getElem?_toArray, List.getElem?_map, nameN_at n]; rfl))) ?_
  refine WL.op (by decide) (R.assign rfl) ?_
  refine WL.next ?_
  refine CW.ret ?_
  exact EW.ret1 (.inl rfl) rfl rfl ⟨rfl, hc1⟩
end Go.Proofs.YthcpjcgjmdfpjaaDoor
