/- (*reader).num. -/
import Derived.Test.YthcpjcgjmdfpjaaDoorReader
namespace Go.Proofs.YthcpjcgjmdfpjaaDoor
open Go Go.RowKit
set_option maxRecDepth 100000

theorem numR_no {bs : List UInt8} {n a : Nat} {bad : Bool} (h : bad = true ∨ bs.length < a + n) : numR bs n a bad = (0, a, true) := if_pos h
theorem numR_yes {bs : List UInt8} {n a : Nat} (h : a + n ≤ bs.length) : numR bs n a false = (beNat ((bs.drop a).take n), a + n, false) := if_neg (by simp; omega)

theorem num_bad (rb : Nat) (A : Option Addr) (m c : Nat) (bs : List UInt8) (n a : Nat) (w : World) (hR : RSt w rb A m c a true) :
    Calls Tryd.prog 45 #[.pointer (some ⟨rb, 0, none⟩), .int .i64 n] w fun e w' => e = .returned (.int .i64 ((numR bs n a true).1 : Nat)) ∧ RSt w' rb A m c (numR bs n a true).2.1 (numR bs n a true).2.2 ∧ Chg (fun k => k = rb) w w' := by
  refine calls_cw (args := [.pointer (some ⟨rb, 0, none⟩), .int .i64 n]) Tryd.func45 rfl rfl ?_
  show CW _ _ _ 64 [(0, .pointer (some ⟨rb, 0, none⟩)), (1, .int .i64 n)] w
  refine CW.rseq ?_  -- region 0
  refine WL.op (by decide) (R.assign rfl) ?_  -- msg.go:142 t4 := (Op.assign c(Value.int IntKind.i64 0))
  refine WL.next ?_
  refine CW.seq ?_
  refine CW.seq ?_
  refine CW.draw (fun w => RSt w rb A m c a true) (by kernel_rfl) ?_
  refine AH.take 0 rfl (by kernel_rfl) (by kernel_rfl) (by kernel_rfl) (fun _ _ _ _ h => h) hR (by decide) (fun w hS => R.move rfl) ?_  -- msg.go:143 t8 := (Op.move t0)
  refine AH.take 1 rfl (by kernel_rfl) (by kernel_rfl) (by kernel_rfl) (fun _ _ _ _ h => h) hR (by decide) (fun w hS => R.nilCheck rfl) ?_  -- msg.go:143 t9 := (Op.nilCheck t8)
  refine AH.take 2 rfl (by kernel_rfl) (by kernel_rfl) (by kernel_rfl) (fun _ _ _ _ h => h) hR (by decide) (fun w hS => FA100_2 rfl) ?_  -- msg.go:143 t10 := (Op.fieldAddr 100 t9 2)
  refine AH.take 3 rfl (by kernel_rfl) (by kernel_rfl) (by kernel_rfl) (fun _ _ _ _ h => h) hR (by decide) (fun w hS => R.load Tryd.underlying4 rfl rfl (cell_at hS rfl)) ?_  -- msg.go:143 t11 := (Op.load 4 t10)
  refine AH.take 4 rfl (by kernel_rfl) (by kernel_rfl) (by kernel_rfl) (fun _ _ _ _ h => h) hR (by decide) (fun w hS => R.move rfl) ?_  -- msg.go:143 t12 := (Op.move t11)
  refine AH.pass 5 rfl (by kernel_rfl) (by kernel_rfl) (by kernel_rfl) (fun _ _ _ _ h => h) hR (by decide) rfl rfl rfl ?_  -- msg.go:143 t13 := (Op.move t0) [guard 4 false]
  refine AH.pass 6 rfl (by kernel_rfl) (by kernel_rfl) (by kernel_rfl) (fun _ _ _ _ h => h) hR (by decide) rfl rfl rfl ?_  -- msg.go:143 t14 := (Op.nilCheck t13) [guard 4 false]
  refine AH.pass 7 rfl (by kernel_rfl) (by kernel_rfl) (by kernel_rfl) (fun _ _ _ _ h => h) hR (by decide) rfl rfl rfl ?_  -- msg.go:143 t15 := (Op.fieldAddr 100 t14 1) [guard 4 false]
  refine AH.pass 8 rfl (by kernel_rfl) (by kernel_rfl) (by kernel_rfl) (fun _ _ _ _ h => h) hR (by decide) rfl rfl rfl ?_  -- msg.go:143 t16 := (Op.load 3 t15) [guard 4 false]
  refine AH.pass 9 rfl (by kernel_rfl) (by kernel_rfl) (by kernel_rfl) (fun _ _ _ _ h => h) hR (by decide) rfl rfl rfl ?_  -- msg.go:143 t17 := (Op.move t1) [guard 4 false]
  refine AH.pass 10 rfl (by kernel_rfl) (by kernel_rfl) (by kernel_rfl) (fun _ _ _ _ h => h) hR (by decide) rfl rfl rfl ?_  -- msg.go:143 t18 := (Op.binOp BinOp.add 3 t16 t17 3) [guard 4 false]
  refine AH.pass 11 rfl (by kernel_rfl) (by kernel_rfl) (by kernel_rfl) (fun _ _ _ _ h => h) hR (by decide) rfl rfl rfl ?_  -- msg.go:143 t19 := (Op.move t0) [guard 4 false]
  refine AH.pass 12 rfl (by kernel_rfl) (by kernel_rfl) (by kernel_rfl) (fun _ _ _ _ h => h) hR (by decide) rfl rfl rfl ?_  -- msg.go:143 t20 := (Op.nilCheck t19) [guard 4 false]
  refine AH.pass 13 rfl (by kernel_rfl) (by kernel_rfl) (by kernel_rfl) (fun _ _ _ _ h => h) hR (by decide) rfl rfl rfl ?_  -- msg.go:143 t21 := (Op.fieldAddr 100 t20 0) [guard 4 false]
  refine AH.pass 14 rfl (by kernel_rfl) (by kernel_rfl) (by kernel_rfl) (fun _ _ _ _ h => h) hR (by decide) rfl rfl rfl ?_  -- msg.go:143 t22 := (Op.load 36 t21) [guard 4 false]
  refine AH.pass 15 rfl (by kernel_rfl) (by kernel_rfl) (by kernel_rfl) (fun _ _ _ _ h => h) hR (by decide) rfl rfl rfl ?_  -- msg.go:143 t23 := (Op.call (Call.mk (Callee.builtin Builtin.len) [t22] [36])) [guard 4 false]
  refine AH.pass 16 rfl (by kernel_rfl) (by kernel_rfl) (by kernel_rfl) (fun _ _ _ _ h => h) hR (by decide) rfl rfl rfl ?_  -- msg.go:143 t24 := (Op.binOp BinOp.gtr 3 t18 t23 3) [guard 4 false]
  refine AH.take 17 rfl (by kernel_rfl) (by kernel_rfl) (by kernel_rfl) (fun _ _ _ _ h => h) hR (by decide) (fun w hS => R.pickT rfl rfl) ?_  -- msg.go:143 t25 := (Op.pick t12 c(Value.bool true) t24)
  refine AH.done (by kernel_rfl) ?_
  refine EW.next ?_
  refine CW.condT rfl ?_
  refine CW.rseq ?_  -- region 2
  refine WL.op (by decide) (R.move rfl) ?_  -- msg.go:144 t26 := (Op.move t0)
  refine WL.op (by decide) (R.nilCheck rfl) ?_  -- msg.go:144 t27 := (Op.nilCheck t26)
  refine WL.op (by decide) (FA100_2 rfl) ?_  -- msg.go:144 t28 := (Op.fieldAddr 100 t27 2)
  refine WL.eff rfl (OP.store1 sz4 rfl rfl rfl rfl hR (Nat.le_of_ble_eq_true rfl) rfl ?_)
  intro w2 hc2 _ hb2
  refine WL.next ?_
  refine CW.rseq ?_  -- region 3
  refine WL.op (by decide) (R.assign rfl) ?_  -- msg.go:145 t4 := (Op.assign c(Value.int IntKind.i64 0))
  refine WL.next ?_
  refine CW.ret ?_
  refine EW.thenRet ?_
  refine EW.ret1 (.inl rfl) rfl rfl ⟨?_, ?_, ?_⟩
  · rw [numR_no (.inl rfl)]; rfl
  · rw [numR_no (.inl rfl)]; exact hb2
  · exact (Chg.drew _ w).trans hc2
theorem num_short (rb : Nat) (A : Option Addr) (m c : Nat) (bs : List UInt8) (n a : Nat) (w : World) (hR : RSt w rb A m c a false) (hS : Src w A m c bs) (hn : n ≤ 4) (ha : a ≤ 1099511627776) (hm : m ≤ 1099511627776) (hs : bs.length < a + n) :
    Calls Tryd.prog 45 #[.pointer (some ⟨rb, 0, none⟩), .int .i64 n] w fun e w' => e = .returned (.int .i64 ((numR bs n a false).1 : Nat)) ∧ RSt w' rb A m c (numR bs n a false).2.1 (numR bs n a false).2.2 ∧ Chg (fun k => k = rb) w w' := by
  have hl := hS.len
  refine calls_cw (args := [.pointer (some ⟨rb, 0, none⟩), .int .i64 n]) Tryd.func45 rfl rfl ?_
  show CW _ _ _ 64 [(0, .pointer (some ⟨rb, 0, none⟩)), (1, .int .i64 n)] w
  refine CW.rseq ?_  -- region 0
  refine WL.op (by decide) (R.assign rfl) ?_  -- msg.go:142 t4 := (Op.assign c(Value.int IntKind.i64 0))
  refine WL.next ?_
  refine CW.seq ?_
  refine CW.seq ?_
  refine CW.draw (fun w => RSt w rb A m c a false) (by kernel_rfl) ?_
  refine AH.take 0 rfl (by kernel_rfl) (by kernel_rfl) (by kernel_rfl) (fun _ _ _ _ h => h) hR (by decide) (fun w hS => R.move rfl) ?_  -- msg.go:143 t8 := (Op.move t0)
  refine AH.take 1 rfl (by kernel_rfl) (by kernel_rfl) (by kernel_rfl) (fun _ _ _ _ h => h) hR (by decide) (fun w hS => R.nilCheck rfl) ?_  -- msg.go:143 t9 := (Op.nilCheck t8)
  refine AH.take 2 rfl (by kernel_rfl) (by kernel_rfl) (by kernel_rfl) (fun _ _ _ _ h => h) hR (by decide) (fun w hS => FA100_2 rfl) ?_  -- msg.go:143 t10 := (Op.fieldAddr 100 t9 2)
  refine AH.take 3 rfl (by kernel_rfl) (by kernel_rfl) (by kernel_rfl) (fun _ _ _ _ h => h) hR (by decide) (fun w hS => R.load Tryd.underlying4 rfl rfl (cell_at hS rfl)) ?_  -- msg.go:143 t11 := (Op.load 4 t10)
  refine AH.take 4 rfl (by kernel_rfl) (by kernel_rfl) (by kernel_rfl) (fun _ _ _ _ h => h) hR (by decide) (fun w hS => R.move rfl) ?_  -- msg.go:143 t12 := (Op.move t11)
  refine AH.takeG 5 rfl (by kernel_rfl) (by kernel_rfl) (by kernel_rfl) (fun _ _ _ _ h => h) hR (by decide) rfl rfl rfl (fun w hS => R.move rfl) ?_  -- msg.go:143 t13 := (Op.move t0) [guard 4 false]
  refine AH.takeG 6 rfl (by kernel_rfl) (by kernel_rfl) (by kernel_rfl) (fun _ _ _ _ h => h) hR (by decide) rfl rfl rfl (fun w hS => R.nilCheck rfl) ?_  -- msg.go:143 t14 := (Op.nilCheck t13) [guard 4 false]
  refine AH.takeG 7 rfl (by kernel_rfl) (by kernel_rfl) (by kernel_rfl) (fun _ _ _ _ h => h) hR (by decide) rfl rfl rfl (fun w hS => FA100_1 rfl) ?_  -- msg.go:143 t15 := (Op.fieldAddr 100 t14 1) [guard 4 false]
  refine AH.takeG 8 rfl (by kernel_rfl) (by kernel_rfl) (by kernel_rfl) (fun _ _ _ _ h => h) hR (by decide) rfl rfl rfl (fun w hS => R.load Tryd.underlying3 rfl rfl (cell_at hS rfl)) ?_  -- msg.go:143 t16 := (Op.load 3 t15) [guard 4 false]
  refine AH.takeG 9 rfl (by kernel_rfl) (by kernel_rfl) (by kernel_rfl) (fun _ _ _ _ h => h) hR (by decide) rfl rfl rfl (fun w hS => R.move rfl) ?_  -- msg.go:143 t17 := (Op.move t1) [guard 4 false]
  refine AH.takeG 10 rfl (by kernel_rfl) (by kernel_rfl) (by kernel_rfl) (fun _ _ _ _ h => h) hR (by decide) rfl rfl rfl (fun w hS => R.add rfl rfl (by omega)) ?_  -- msg.go:143 t18 := (Op.binOp BinOp.add 3 t16 t17 3) [guard 4 false]
  refine AH.takeG 11 rfl (by kernel_rfl) (by kernel_rfl) (by kernel_rfl) (fun _ _ _ _ h => h) hR (by decide) rfl rfl rfl (fun w hS => R.move rfl) ?_  -- msg.go:143 t19 := (Op.move t0) [guard 4 false]
  refine AH.takeG 12 rfl (by kernel_rfl) (by kernel_rfl) (by kernel_rfl) (fun _ _ _ _ h => h) hR (by decide) rfl rfl rfl (fun w hS => R.nilCheck rfl) ?_  -- msg.go:143 t20 := (Op.nilCheck t19) [guard 4 false]
  refine AH.takeG 13 rfl (by kernel_rfl) (by kernel_rfl) (by kernel_rfl) (fun _ _ _ _ h => h) hR (by decide) rfl rfl rfl (fun w hS => FA100_0 rfl) ?_  -- msg.go:143 t21 := (Op.fieldAddr 100 t20 0) [guard 4 false]
  refine AH.takeG 14 rfl (by kernel_rfl) (by kernel_rfl) (by kernel_rfl) (fun _ _ _ _ h => h) hR (by decide) rfl rfl rfl (fun w hS => R.load Tryd.underlying36 rfl rfl (cell_at hS rfl)) ?_  -- msg.go:143 t22 := (Op.load 36 t21) [guard 4 false]
  refine AH.takeG 15 rfl (by kernel_rfl) (by kernel_rfl) (by kernel_rfl) (fun _ _ _ _ h => h) hR (by decide) rfl rfl rfl (fun w hS => R.lenSlice rfl Tryd.underlying36 rfl) ?_  -- msg.go:143 t23 := (Op.call (Call.mk (Callee.builtin Builtin.len) [t22] [36])) [guard 4 false]
  refine AH.takeG 16 rfl (by kernel_rfl) (by kernel_rfl) (by kernel_rfl) (fun _ _ _ _ h => h) hR (by decide) rfl rfl rfl (fun w hS => R.gtr rfl rfl (c := true) (decide_eq_true (by omega))) ?_  -- msg.go:143 t24 := (Op.binOp BinOp.gtr 3 t18 t23 3) [guard 4 false]
  refine AH.take 17 rfl (by kernel_rfl) (by kernel_rfl) (by kernel_rfl) (fun _ _ _ _ h => h) hR (by decide) (fun w hS => R.pickF rfl rfl) ?_  -- msg.go:143 t25 := (Op.pick t12 c(Value.bool true) t24)
  refine AH.done (by kernel_rfl) ?_
  refine EW.next ?_
  refine CW.condT rfl ?_
  refine CW.rseq ?_  -- region 2
  refine WL.op (by decide) (R.move rfl) ?_  -- msg.go:144 t26 := (Op.move t0)
  refine WL.op (by decide) (R.nilCheck rfl) ?_  -- msg.go:144 t27 := (Op.nilCheck t26)
  refine WL.op (by decide) (FA100_2 rfl) ?_  -- msg.go:144 t28 := (Op.fieldAddr 100 t27 2)
  refine WL.eff rfl (OP.store1 sz4 rfl rfl rfl rfl hR (Nat.le_of_ble_eq_true rfl) rfl ?_)
  intro w2 hc2 _ hb2
  refine WL.next ?_
  refine CW.rseq ?_  -- region 3
  refine WL.op (by decide) (R.assign rfl) ?_  -- msg.go:145 t4 := (Op.assign c(Value.int IntKind.i64 0))
  refine WL.next ?_
  refine CW.ret ?_
  refine EW.thenRet ?_
  refine EW.ret1 (.inl rfl) rfl rfl ⟨?_, ?_, ?_⟩
  · rw [numR_no (.inr (by omega))]; rfl
  · rw [numR_no (.inr (by omega))]; exact hb2
  · exact (Chg.drew _ w).trans hc2
theorem num_ok (rb : Nat) (A : Option Addr) (m c : Nat) (bs : List UInt8) (n a : Nat) (w : World) (hR : RSt w rb A m c a false) (hS : Src w A m c bs) (hn : n ≤ 4) (ha : a ≤ 1099511627776) (hm : m ≤ 1099511627776) (hn0 : 0 < n) (hs : a + n ≤ bs.length) :
    Calls Tryd.prog 45 #[.pointer (some ⟨rb, 0, none⟩), .int .i64 n] w fun e w' => e = .returned (.int .i64 ((numR bs n a false).1 : Nat)) ∧ RSt w' rb A m c (numR bs n a false).2.1 (numR bs n a false).2.2 ∧ Chg (fun k => k = rb) w w' := by
  have hl := hS.len
  have hcp := hS.cap
  have hm0 : m ≠ 0 := by omega
  obtain ⟨g, o, hA, _⟩ := hS.cells hm0
  subst hA
  refine calls_cw (args := [.pointer (some ⟨rb, 0, none⟩), .int .i64 n]) Tryd.func45 rfl rfl ?_
  show CW _ _ _ 64 [(0, .pointer (some ⟨rb, 0, none⟩)), (1, .int .i64 n)] w
  refine CW.rseq ?_  -- region 0
  refine WL.op (by decide) (R.assign rfl) ?_  -- msg.go:142 t4 := (Op.assign c(Value.int IntKind.i64 0))
  refine WL.next ?_
  refine CW.seq ?_
  refine CW.seq ?_
  refine CW.draw (fun w => RSt w rb (some ⟨g, o, none⟩) m c a false) (by kernel_rfl) ?_
  refine AH.take 0 rfl (by kernel_rfl) (by kernel_rfl) (by kernel_rfl) (fun _ _ _ _ h => h) hR (by decide) (fun w hS => R.move rfl) ?_  -- msg.go:143 t8 := (Op.move t0)
  refine AH.take 1 rfl (by kernel_rfl) (by kernel_rfl) (by kernel_rfl) (fun _ _ _ _ h => h) hR (by decide) (fun w hS => R.nilCheck rfl) ?_  -- msg.go:143 t9 := (Op.nilCheck t8)
  refine AH.take 2 rfl (by kernel_rfl) (by kernel_rfl) (by kernel_rfl) (fun _ _ _ _ h => h) hR (by decide) (fun w hS => FA100_2 rfl) ?_  -- msg.go:143 t10 := (Op.fieldAddr 100 t9 2)
  refine AH.take 3 rfl (by kernel_rfl) (by kernel_rfl) (by kernel_rfl) (fun _ _ _ _ h => h) hR (by decide) (fun w hS => R.load Tryd.underlying4 rfl rfl (cell_at hS rfl)) ?_  -- msg.go:143 t11 := (Op.load 4 t10)
  refine AH.take 4 rfl (by kernel_rfl) (by kernel_rfl) (by kernel_rfl) (fun _ _ _ _ h => h) hR (by decide) (fun w hS => R.move rfl) ?_  -- msg.go:143 t12 := (Op.move t11)
  refine AH.takeG 5 rfl (by kernel_rfl) (by kernel_rfl) (by kernel_rfl) (fun _ _ _ _ h => h) hR (by decide) rfl rfl rfl (fun w hS => R.move rfl) ?_  -- msg.go:143 t13 := (Op.move t0) [guard 4 false]
  refine AH.takeG 6 rfl (by kernel_rfl) (by kernel_rfl) (by kernel_rfl) (fun _ _ _ _ h => h) hR (by decide) rfl rfl rfl (fun w hS => R.nilCheck rfl) ?_  -- msg.go:143 t14 := (Op.nilCheck t13) [guard 4 false]
  refine AH.takeG 7 rfl (by kernel_rfl) (by kernel_rfl) (by kernel_rfl) (fun _ _ _ _ h => h) hR (by decide) rfl rfl rfl (fun w hS => FA100_1 rfl) ?_  -- msg.go:143 t15 := (Op.fieldAddr 100 t14 1) [guard 4 false]
  refine AH.takeG 8 rfl (by kernel_rfl) (by kernel_rfl) (by kernel_rfl) (fun _ _ _ _ h => h) hR (by decide) rfl rfl rfl (fun w hS => R.load Tryd.underlying3 rfl rfl (cell_at hS rfl)) ?_  -- msg.go:143 t16 := (Op.load 3 t15) [guard 4 false]
  refine AH.takeG 9 rfl (by kernel_rfl) (by kernel_rfl) (by kernel_rfl) (fun _ _ _ _ h => h) hR (by decide) rfl rfl rfl (fun w hS => R.move rfl) ?_  -- msg.go:143 t17 := (Op.move t1) [guard 4 false]
  refine AH.takeG 10 rfl (by kernel_rfl) (by kernel_rfl) (by kernel_rfl) (fun _ _ _ _ h => h) hR (by decide) rfl rfl rfl (fun w hS => R.add rfl rfl (by omega)) ?_  -- msg.go:143 t18 := (Op.binOp BinOp.add 3 t16 t17 3) [guard 4 false]
  refine AH.takeG 11 rfl (by kernel_rfl) (by kernel_rfl) (by kernel_rfl) (fun _ _ _ _ h => h) hR (by decide) rfl rfl rfl (fun w hS => R.move rfl) ?_  -- msg.go:143 t19 := (Op.move t0) [guard 4 false]
  refine AH.takeG 12 rfl (by kernel_rfl) (by kernel_rfl) (by kernel_rfl) (fun _ _ _ _ h => h) hR (by decide) rfl rfl rfl (fun w hS => R.nilCheck rfl) ?_  -- msg.go:143 t20 := (Op.nilCheck t19) [guard 4 false]
  refine AH.takeG 13 rfl (by kernel_rfl) (by kernel_rfl) (by kernel_rfl) (fun _ _ _ _ h => h) hR (by decide) rfl rfl rfl (fun w hS => FA100_0 rfl) ?_  -- msg.go:143 t21 := (Op.fieldAddr 100 t20 0) [guard 4 false]
  refine AH.takeG 14 rfl (by kernel_rfl) (by kernel_rfl) (by kernel_rfl) (fun _ _ _ _ h => h) hR (by decide) rfl rfl rfl (fun w hS => R.load Tryd.underlying36 rfl rfl (cell_at hS rfl)) ?_  -- msg.go:143 t22 := (Op.load 36 t21) [guard 4 false]
  refine AH.takeG 15 rfl (by kernel_rfl) (by kernel_rfl) (by kernel_rfl) (fun _ _ _ _ h => h) hR (by decide) rfl rfl rfl (fun w hS => R.lenSlice rfl Tryd.underlying36 rfl) ?_  -- msg.go:143 t23 := (Op.call (Call.mk (Callee.builtin Builtin.len) [t22] [36])) [guard 4 false]
  refine AH.takeG 16 rfl (by kernel_rfl) (by kernel_rfl) (by kernel_rfl) (fun _ _ _ _ h => h) hR (by decide) rfl rfl rfl (fun w hS => R.gtr rfl rfl (c := false) (decide_eq_false (by omega))) ?_  -- msg.go:143 t24 := (Op.binOp BinOp.gtr 3 t18 t23 3) [guard 4 false]
  refine AH.take 17 rfl (by kernel_rfl) (by kernel_rfl) (by kernel_rfl) (fun _ _ _ _ h => h) hR (by decide) (fun w hS => R.pickF rfl rfl) ?_  -- msg.go:143 t25 := (Op.pick t12 c(Value.bool true) t24)
  refine AH.done (by kernel_rfl) ?_
  refine EW.next ?_
  refine CW.condF rfl ?_
  refine CW.skip ?_
  refine EW.next ?_
  refine CW.rseq ?_  -- region 4
  refine WL.op (by decide) (R.assign rfl) ?_  -- msg.go:147 t5 := (Op.assign c(Value.int IntKind.i64 0))
  refine WL.next ?_
  refine CW.seq ?_
  refine CW.seq ?_
  refine CW.draw (fun w => RSt w rb (some ⟨g, o, none⟩) m c a false) (by kernel_rfl) ?_
  refine AH.take 0 rfl (by kernel_rfl) (by kernel_rfl) (by kernel_rfl) (fun _ _ _ _ h => h) hR (by decide) (fun w hS => R.move rfl) ?_  -- msg.go:148 t29 := (Op.move t0)
  refine AH.take 1 rfl (by kernel_rfl) (by kernel_rfl) (by kernel_rfl) (fun _ _ _ _ h => h) hR (by decide) (fun w hS => R.nilCheck rfl) ?_  -- msg.go:148 t30 := (Op.nilCheck t29)
  refine AH.take 2 rfl (by kernel_rfl) (by kernel_rfl) (by kernel_rfl) (fun _ _ _ _ h => h) hR (by decide) (fun w hS => FA100_0 rfl) ?_  -- msg.go:148 t31 := (Op.fieldAddr 100 t30 0)
  refine AH.take 3 rfl (by kernel_rfl) (by kernel_rfl) (by kernel_rfl) (fun _ _ _ _ h => h) hR (by decide) (fun w hS => R.load Tryd.underlying36 rfl rfl (cell_at hS rfl)) ?_  -- msg.go:148 t32 := (Op.load 36 t31)
  refine AH.take 4 rfl (by kernel_rfl) (by kernel_rfl) (by kernel_rfl) (fun _ _ _ _ h => h) hR (by decide) (fun w hS => R.move rfl) ?_  -- msg.go:148 t33 := (Op.move t0)
  refine AH.take 5 rfl (by kernel_rfl) (by kernel_rfl) (by kernel_rfl) (fun _ _ _ _ h => h) hR (by decide) (fun w hS => R.nilCheck rfl) ?_  -- msg.go:148 t34 := (Op.nilCheck t33)
  refine AH.take 6 rfl (by kernel_rfl) (by kernel_rfl) (by kernel_rfl) (fun _ _ _ _ h => h) hR (by decide) (fun w hS => FA100_1 rfl) ?_  -- msg.go:148 t35 := (Op.fieldAddr 100 t34 1)
  refine AH.take 7 rfl (by kernel_rfl) (by kernel_rfl) (by kernel_rfl) (fun _ _ _ _ h => h) hR (by decide) (fun w hS => R.load Tryd.underlying3 rfl rfl (cell_at hS rfl)) ?_  -- msg.go:148 t36 := (Op.load 3 t35)
  refine AH.take 8 rfl (by kernel_rfl) (by kernel_rfl) (by kernel_rfl) (fun _ _ _ _ h => h) hR (by decide) (fun w hS => R.move rfl) ?_  -- msg.go:148 t37 := (Op.move t0)
  refine AH.take 9 rfl (by kernel_rfl) (by kernel_rfl) (by kernel_rfl) (fun _ _ _ _ h => h) hR (by decide) (fun w hS => R.nilCheck rfl) ?_  -- msg.go:148 t38 := (Op.nilCheck t37)
  refine AH.take 10 rfl (by kernel_rfl) (by kernel_rfl) (by kernel_rfl) (fun _ _ _ _ h => h) hR (by decide) (fun w hS => FA100_1 rfl) ?_  -- msg.go:148 t39 := (Op.fieldAddr 100 t38 1)
  refine AH.take 11 rfl (by kernel_rfl) (by kernel_rfl) (by kernel_rfl) (fun _ _ _ _ h => h) hR (by decide) (fun w hS => R.load Tryd.underlying3 rfl rfl (cell_at hS rfl)) ?_  -- msg.go:148 t40 := (Op.load 3 t39)
  refine AH.take 12 rfl (by kernel_rfl) (by kernel_rfl) (by kernel_rfl) (fun _ _ _ _ h => h) hR (by decide) (fun w hS => R.move rfl) ?_  -- msg.go:148 t41 := (Op.move t1)
  refine AH.take 13 rfl (by kernel_rfl) (by kernel_rfl) (by kernel_rfl) (fun _ _ _ _ h => h) hR (by decide) (fun w hS => R.add rfl rfl (by omega)) ?_  -- msg.go:148 t42 := (Op.binOp BinOp.add 3 t40 t41 3)
  refine AH.take 14 rfl (by kernel_rfl) (by kernel_rfl) (by kernel_rfl) (fun _ _ _ _ h => h) hR (by decide) (fun w hS => R.sliceSl Tryd.underlying36 sz5 rfl rfl rfl rfl (hi := a + n) (by omega) (Nat.le_add_right _ _) (by omega)) ?_  -- msg.go:148 t43 := (Op.slice 36 t32 (some t36) (some t42) none)
  refine AH.take 15 rfl (by kernel_rfl) (by kernel_rfl) (by kernel_rfl) (fun _ _ _ _ h => h) hR (by decide) (fun w hS => R.lenSlice rfl Tryd.underlying36 rfl) ?_  -- msg.go:148 t44 := (Op.call (Call.mk (Callee.builtin Builtin.len) [t43] [36]))
  refine AH.take 16 rfl (by kernel_rfl) (by kernel_rfl) (by kernel_rfl) (fun _ _ _ _ h => h) hR (by decide) (fun w hS => R.move rfl) ?_  -- msg.go:148 t45 := (Op.move c(Value.int IntKind.i64 0))
  refine AH.done (by kernel_rfl) ?_
  refine EW.next ?_
  refine CW.block ?_
  refine CW.loopK [0, 1, 5, 43, 44, 45] (fun k l wr => RSt wr rb (some ⟨g, o, none⟩) m c a false ∧ Chg (fun k => k = rb) w wr ∧ Src wr (some ⟨g, o, none⟩) m c bs ∧ ∃ (j : Nat) (i : Int), j + k = n ∧ i = (j : Int) ∧ l = [(0, .pointer (some ⟨rb, 0, none⟩)), (1, .int .i64 n), (5, .int .i64 (beNat ((bs.drop a).take j) : Nat)), (43, .slice (some ⟨g, o + a, none⟩) n (c - a)), (44, .int .i64 n), (45, .int .i64 i)]) (n) ?_ ?_
  · refine ⟨hR, (Chg.drew _ w).trans (Chg.drew _ _), hS.kept ((Chg.drew (fun _ => False) w).trans (Chg.drew _ _)) (fun _ _ _ h => h), 0, _, by omega, rfl, ?_⟩
    show [(0, _), (1, _), (5, _), (43, _), (44, _), (45, _)] = _
    simp only [if_neg (show ¬ c = a by omega), Nat.add_sub_cancel_left]
    rfl
  · rintro k l wr ⟨hR, hC, hS, j, i, hk, rfl, rfl⟩
    obtain ⟨g', o', hA', hcell⟩ := hS.cells hm0
    obtain ⟨rfl, rfl⟩ : g = g' ∧ o = o' := by injection hA' with e; injection e with e1 e2; exact ⟨e1, e2⟩
    refine CW.rseq ?_  -- region 6
    refine WL.lssS (by decide) rfl rfl (fun h1 => ?_) (fun h1 => ?_)  -- msg.go:148 t46 := (Op.binOp BinOp.lss 3 t45 t44 3)
    · skip
      refine WL.next ?_
      refine CW.seq ?_
      refine CW.condT rfl ?_
      refine CW.skip ?_
      refine EW.next ?_
      refine CW.seq ?_
      refine CW.block ?_
      refine CW.rseq ?_  -- region 7
      have hlt : j < n := by omega
      obtain ⟨b, hb⟩ : ∃ b, (bs.drop a)[j]? = some b := ⟨(bs.drop a)[j]'(by rw [List.length_drop]; omega), List.getElem?_eq_getElem _⟩
      have hbt := beNat_take hb
      have hbl := beNat_take_lt (bs.drop a) (j := j) (by omega)
      refine WL.op (by decide) (R.indexAddr1 (i := j) Tryd.underlying36 sz5 rfl rfl rfl (by omega)) ?_
      refine WL.op (by decide) (R.load Tryd.underlying5 rfl rfl (by rw [Nat.mul_one, Nat.add_assoc]; exact hcell (a + j) b (by rw [List.getElem?_drop] at hb; exact hb))) ?_  -- msg.go:148 t48 := (Op.load 5 t47)
      refine WL.op (by decide) (R.assign rfl) ?_  -- msg.go:148 t7 := (Op.assign t48)
      refine WL.next ?_
      refine CW.region ?_  -- region 8
      refine WL.op (by decide) (R.move rfl) ?_  -- msg.go:149 t49 := (Op.move t5)
      refine WL.op (by decide) (R.shl rfl rfl (by omega) (by simp only [show (8 : Int).toNat = 8 from rfl, Int.reducePow]; omega)) ?_  -- msg.go:149 t50 := (Op.binOp BinOp.shl 3 t49 c(Value.int IntKind.u64 8) 42)
      refine WL.op (by decide) (R.move rfl) ?_  -- msg.go:149 t51 := (Op.move t7)
      refine WL.op (by decide) (R.conv53 rfl) ?_  -- msg.go:149 t52 := (Op.convert 5 3 t51)
      refine WL.op (by decide) (R.or256 rfl rfl (by omega)) ?_  -- msg.go:149 t53 := (Op.binOp BinOp.or 3 t50 t52 3)
      refine WL.op (by decide) (R.assign rfl) ?_  -- msg.go:149 t5 := (Op.assign t53)
      refine WL.nil ?_
      refine EW.inNormal ?_
      refine EW.next ?_
      refine CW.region ?_  -- region 9
      refine WL.op (by decide) (R.add rfl rfl (by omega)) ?_  -- msg.go:148 t54 := (Op.binOp BinOp.add 3 t45 c(Value.int IntKind.i64 1) 3)
      refine WL.op (by decide) (R.move rfl) ?_  -- msg.go:148 t45 := (Op.move t54)
      refine WL.nil ?_
      refine EW.roundK [0, 1, 5, 43, 44, 45] (k - 1) (by omega) ⟨hR, hC, hS, j + 1, (j : Int) + 1, by omega, by omega, ?_⟩
      rw [hbt]
      rfl
    · skip
      refine WL.next ?_
      refine CW.seq ?_
      refine CW.condF rfl ?_
      refine CW.exit ?_
      refine EW.thenExit ?_
      refine EW.thenExit ?_
      refine EW.inHere ?_
      refine EW.next ?_
      refine CW.rseq ?_  -- region 10
      refine WL.op (by decide) (R.move rfl) ?_  -- msg.go:151 t55 := (Op.move t0)
      refine WL.op (by decide) (R.nilCheck rfl) ?_  -- msg.go:151 t56 := (Op.nilCheck t55)
      refine WL.op (by decide) (FA100_1 rfl) ?_  -- msg.go:151 t57 := (Op.fieldAddr 100 t56 1)
      refine WL.op (by decide) (R.load Tryd.underlying3 rfl rfl (cell_at hR rfl)) ?_  -- msg.go:151 t58 := (Op.load 3 t57)
      refine WL.op (by decide) (R.move rfl) ?_  -- msg.go:151 t59 := (Op.move t1)
      refine WL.op (by decide) (R.add rfl rfl (by omega)) ?_  -- msg.go:151 t60 := (Op.binOp BinOp.add 3 t58 t59 3)
      refine WL.op (by decide) (R.nilCheck rfl) ?_  -- msg.go:151 t61 := (Op.nilCheck t55)
      refine WL.op (by decide) (FA100_1 rfl) ?_  -- msg.go:151 t62 := (Op.fieldAddr 100 t61 1)
      refine WL.eff rfl (OP.store1 sz3 rfl rfl rfl rfl hR (Nat.le_of_ble_eq_true rfl) rfl ?_)
      intro w2 hc2 _ hb2
      refine WL.next ?_
      refine CW.rseq ?_  -- region 11
      refine WL.op (by decide) (R.move rfl) ?_  -- msg.go:152 t63 := (Op.move t5)
      refine WL.op (by decide) (R.assign rfl) ?_  -- msg.go:152 t4 := (Op.assign t63)
      refine WL.next ?_
      refine CW.ret ?_
      refine EW.ret1 (.inl rfl) rfl rfl ⟨?_, ?_, ?_⟩
      · rw [numR_yes (by omega), show j = n by omega]
      · rw [numR_yes (by omega)]; exact hb2
      · exact hC.trans hc2

theorem num_any (rb : Nat) (A : Option Addr) (m c : Nat) (bs : List UInt8) (n a : Nat) (bad : Bool) (w : World) (hR : RSt w rb A m c a bad) (hS : Src w A m c bs) (hn : n ≤ 4) (hn0 : 0 < n) (ha : a ≤ 1099511627776) (hm : m ≤ 1099511627776) :
    Calls Tryd.prog 45 #[.pointer (some ⟨rb, 0, none⟩), .int .i64 n] w fun e w' => e = .returned (.int .i64 ((numR bs n a bad).1 : Nat)) ∧ RSt w' rb A m c (numR bs n a bad).2.1 (numR bs n a bad).2.2 ∧ Chg (fun k => k = rb) w w' := by
  cases bad with
  | true => exact num_bad rb A m c bs n a w hR
  | false =>
    by_cases h : a + n ≤ bs.length
    · exact num_ok rb A m c bs n a w hR hS hn ha hm hn0 h
    · exact num_short rb A m c bs n a w hR hS hn ha hm (by omega)
end Go.Proofs.YthcpjcgjmdfpjaaDoor
