/- msg.put: a number's bytes behind others. -/
import Derived.Test.YthcpjcgjmdfpjaaDoorFacts
namespace Go.Proofs.YthcpjcgjmdfpjaaDoor
open Go Go.RowKit

theorem beN_take (x : Int) : ∀ (n j : Nat), j < n → (beN n x).take (j + 1) = (beN n x).take j ++ [byteOf (x / 2 ^ (8 * (n - 1 - j)))]
  | 0, j, h => by omega
  | n + 1, 0, h => by simp [beN]
  | n + 1, j + 1, h => by
    have := beN_take x n j (by omega)
    simp only [beN, List.take_succ_cons, List.cons_append] at this ⊢
    rw [this, show n + 1 - 1 - (j + 1) = n - 1 - j by omega]

set_option maxRecDepth 100000 in
theorem put_any (base : Nat) (v : Value) (bs : List UInt8) (n : Nat) (x : Int) (w : World) (hn : n ≤ 8) (hB : Buf w base v bs) (hb : base ≤ w.heap.size) (hl : bs.length ≤ 1099511627776) :
    Calls Tryd.prog 42 #[v, .int .i64 n, .int .i64 x] w fun e w' => ∃ v', e = .returned v' ∧ Buf w' base v' (bs ++ beN n x) ∧ Moved w w' v v' := by
  refine calls_cw (args := [v, .int .i64 n, .int .i64 x]) Tryd.func42 rfl rfl ?_
  show CW _ _ _ 23 [(0, v), (1, .int .i64 n), (2, .int .i64 x)] w
  refine CW.rseq ?_  -- region 0
  refine WL.op (by decide) (R.assign rfl) ?_  -- msg.go:10 t6 := (Op.assign c(Value.slice none 0 0))
  refine WL.next ?_
  refine CW.seq ?_  -- {
  refine CW.rseq ?_  -- region 1
  refine WL.op (by decide) (R.move rfl) ?_  -- msg.go:11 t8 := (Op.move t1)
  refine WL.op (by decide) (R.sub rfl rfl (by omega)) ?_  -- msg.go:11 t9 := (Op.binOp BinOp.sub 3 t8 c(Value.int IntKind.i64 1) 3)
  refine WL.op (by decide) (R.assign rfl) ?_  -- msg.go:11 t7 := (Op.assign t9)
  refine WL.next ?_
  refine CW.block ?_  -- block 0 {
  refine CW.loopK [0, 2, 7] (fun m l wr => ∃ (j : Nat) (s : Value) (i : Int), j + m = n ∧ i = (n : Int) - 1 - j ∧ l = [(0, s), (2, .int .i64 x), (7, .int .i64 i)] ∧ Buf wr base s (bs ++ (beN n x).take j) ∧ Moved w wr v s) n ?_ ?_
  · exact ⟨0, v, _, by omega, by simp, rfl, by simpa using hB, Moved.refl _ _⟩
  · rintro m l wr ⟨j, s, i, hm, hi, rfl, hB', hM⟩
    have hbw : base ≤ wr.heap.size := Nat.le_trans hb hM.g.size
    refine CW.seq ?_  -- {
    refine CW.rseq ?_  -- region 2
    refine WL.op (by decide) (R.move rfl) ?_  -- msg.go:11 t10 := (Op.move t7)
    by_cases hlt : j < n
    · refine WL.op (by decide) (R.geq rfl rfl (c := true) (decide_eq_true (by omega))) ?_
      refine WL.next ?_
      refine CW.condT rfl ?_
      refine CW.skip ?_
      refine EW.next ?_
      refine CW.seq ?_  -- {
      refine CW.block ?_  -- block 1 {
      refine CW.region ?_  -- region 4 (last)
      refine WL.op (by decide) (R.move rfl) ?_  -- msg.go:12 t14 := (Op.move t0)
      refine WL.op (by decide) (R.move rfl) ?_  -- msg.go:12 t15 := (Op.move t2)
      refine WL.op (by decide) (R.move rfl) ?_  -- msg.go:12 t16 := (Op.move t7)
      refine WL.op (by decide) (R.mul rfl rfl (by omega)) ?_  -- msg.go:12 t17 := (Op.binOp BinOp.mul 3 c(Value.int IntKind.i64 8) t16 3)
      refine WL.op (by decide) (R.shr rfl rfl (by omega)) ?_  -- msg.go:12 t18 := (Op.binOp BinOp.shr 3 t15 t17 3)
      refine WL.op (by decide) (R.conv35 rfl) ?_  -- msg.go:12 t19 := (Op.convert 3 5 t18)
      refine WL.eff rfl (OP.buildSlice1 (by decide) rfl ?_)  -- msg.go:12 t20 := (Op.buildSlice 36 1 [(0, t19)])
      intro w1 hc1 hs1 hb1
      have hB1 : Buf w1 base s (bs ++ (beN n x).take j) := hB'.kept hc1 (fun _ _ h => h)
      refine WL.eff rfl (OP.appendByte (by decide) rfl rfl hB1 hb1 (by simp; omega) (by omega) ?_)
      intro s' w2 hB2 hM2
      refine WL.op (by decide) (R.assign rfl) ?_  -- msg.go:12 t0 := (Op.assign t21)
      refine WL.nil ?_
      refine EW.inNormal ?_
      refine EW.next ?_
      refine CW.region ?_  -- region 3 (last)
      refine WL.op (by decide) (R.move rfl) ?_  -- msg.go:11 t12 := (Op.move t7)
      refine WL.op (by decide) (R.sub rfl rfl (by omega)) ?_  -- msg.go:11 t13 := (Op.binOp BinOp.sub 3 t12 c(Value.int IntKind.i64 1) 3)
      refine WL.op (by decide) (R.assign rfl) ?_  -- msg.go:11 t7 := (Op.assign t13)
      refine WL.nil ?_
      refine EW.roundK [0, 2, 7] (m - 1) (by omega) ⟨j + 1, s', _, by omega, ?_, rfl, ?_, ?_⟩
      · omega
      · rw [beN_take x n j hlt, ← List.append_assoc]
        rw [show (8 * i).toNat = 8 * (n - 1 - j) by omega] at hB2
        exact hB2
      · exact (hM.trans ⟨hc1.own, .inl rfl⟩).trans hM2
    · refine WL.op (by decide) (R.geq rfl rfl (c := false) (decide_eq_false (by omega))) ?_
      refine WL.next ?_
      refine CW.condF rfl ?_
      refine CW.exit ?_  -- exit 0
      refine EW.thenExit ?_
      refine EW.thenExit ?_
      refine EW.inHere ?_
      refine EW.next ?_
      refine CW.rseq ?_  -- region 5
      refine WL.op (by decide) (R.move rfl) ?_  -- msg.go:14 t22 := (Op.move t0)
      refine WL.op (by decide) (R.assign rfl) ?_  -- msg.go:14 t6 := (Op.assign t22)
      refine WL.next ?_
      refine CW.ret ?_
      refine EW.ret1 (.inl rfl) rfl rfl ⟨s, rfl, ?_, hM⟩
      have : j = n := by omega
      subst this
      rwa [List.take_of_length_le (by rw [beN_length]; omega)] at hB'
end Go.Proofs.YthcpjcgjmdfpjaaDoor
