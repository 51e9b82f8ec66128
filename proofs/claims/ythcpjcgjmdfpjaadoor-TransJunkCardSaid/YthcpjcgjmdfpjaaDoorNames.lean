/- msg.names. -/
import Derived.Test.YthcpjcgjmdfpjaaDoorLower
import Derived.Test.YthcpjcgjmdfpjaaDoorSplit
import Derived.Test.YthcpjcgjmdfpjaaDoorRight
namespace Go.Proofs.YthcpjcgjmdfpjaaDoor
open Go Go.RowKit
set_option maxRecDepth 100000

theorem names_any (s : List UInt8) (w : World) (hl : s.length ≤ 1099511627776) :
    Calls Tryd.prog 50 #[sv s] w fun e w' => e = .returned (.bool (namesL s)) ∧ Chg (fun _ => False) w w' := by
  refine calls_cw (args := [sv s]) Tryd.func50 rfl rfl ?_
  show CW _ _ _ 25 [(0, sv s)] w
  refine CW.rseq ?_  -- region 0
  refine WL.op (by decide) (R.assign rfl) ?_  -- msg.go:84 t2 := (Op.assign c(Value.bool false))
  refine WL.next ?_
  refine CW.seq ?_
  refine CW.rseq ?_  -- region 1
  refine WL.op (by decide) (R.move rfl) ?_  -- msg.go:85 t5 := (Op.move t0)
  refine WL.op (by decide) (R.lenS rfl rfl) ?_  -- msg.go:85 t6 := (Op.call (Call.mk (Callee.builtin Builtin.len) [t5] [9]))
  refine WL.gtrS (by decide) rfl rfl (fun h1 => ?_) (fun h1 => ?_)  -- msg.go:85 t7 := (Op.binOp BinOp.gtr 3 t6 c(Value.int IntKind.i64 253) 3)
  · skip
    refine WL.op (by decide) (R.move rfl) ?_  -- msg.go:85 t8 := (Op.move t7)
    refine WL.pass (by decide) rfl rfl rfl ?_  -- msg.go:85 t9 := (Op.move t0) [guard 3 false]
    refine WL.pass (by decide) rfl rfl rfl ?_  -- msg.go:85 t10 := (Op.call (Call.mk (Callee.value (Operand.func 38)) [t9] [9])) [guard 3 false]
    refine WL.pass (by decide) rfl rfl rfl ?_  -- msg.go:85 t11 := (Op.move t0) [guard 3 false]
    refine WL.pass (by decide) rfl rfl rfl ?_  -- msg.go:85 t12 := (Op.binOp BinOp.neq 9 t10 t11 9) [guard 3 false]
    refine WL.op (by decide) (R.pickT rfl rfl) ?_  -- msg.go:85 t13 := (Op.pick t8 c(Value.bool true) t12)
    refine WL.next ?_
    refine CW.condT rfl ?_
    refine CW.rseq ?_  -- region 2
    refine WL.op (by decide) (R.assign rfl) ?_  -- msg.go:86 t2 := (Op.assign c(Value.bool false))
    refine WL.next ?_
    refine CW.ret ?_
    refine EW.thenRet ?_
    refine EW.ret1 (.inl rfl) rfl rfl ⟨?_, Chg.refl _ _⟩
    rw [namesL_false (.inl (by omega))]
  · skip
    refine WL.op (by decide) (R.move rfl) ?_  -- msg.go:85 t8 := (Op.move t7)
    refine WL.gop (by decide) rfl rfl rfl (R.move rfl) ?_  -- msg.go:85 t9 := (Op.move t0) [guard 3 false]
    refine WL.geff rfl rfl rfl (OP.call (by decide) Tryd.func38 (by kernel_rfl) (by kernel_rfl) rfl (lower_any s _ hl) ?_)
    rintro e w1 ⟨rfl, hc1⟩
    refine ⟨_, rfl, ?_⟩
    refine WL.gop (by decide) rfl rfl rfl (R.move rfl) ?_  -- msg.go:85 t11 := (Op.move t0) [guard 3 false]
    refine WL.gsplit _ (by decide) rfl rfl rfl (R.neqStr rfl rfl) (fun h2 => ?_) (fun h2 => ?_)  -- msg.go:85 t12 := (Op.binOp BinOp.neq 9 t10 t11 9) [guard 3 false]
    · skip
      refine WL.op (by decide) (R.pickF rfl rfl) ?_  -- msg.go:85 t13 := (Op.pick t8 c(Value.bool true) t12)
      refine WL.next ?_
      refine CW.condT rfl ?_
      refine CW.rseq ?_  -- region 2
      refine WL.op (by decide) (R.assign rfl) ?_  -- msg.go:86 t2 := (Op.assign c(Value.bool false))
      refine WL.next ?_
      refine CW.ret ?_
      refine EW.thenRet ?_
      refine EW.ret1 (.inl rfl) rfl rfl ⟨?_, hc1⟩
      rw [namesL_false (.inr (.inl h2))]
    · skip
      refine WL.op (by decide) (R.pickF rfl rfl) ?_  -- msg.go:85 t13 := (Op.pick t8 c(Value.bool true) t12)
      refine WL.next ?_
      refine CW.condF rfl ?_
      refine CW.skip ?_
      refine EW.next ?_
      refine CW.seq ?_
      refine CW.rseq ?_  -- region 3
      refine WL.op (by decide) (R.move rfl) ?_  -- msg.go:88 t14 := (Op.move t0)
      refine WL.eff rfl (OP.call (by decide) Tryd.func39 (by kernel_rfl) (by kernel_rfl) rfl (split_any s _ hl) ?_)
      rintro e w2 ⟨v, rfl, hB, hc2⟩
      refine ⟨_, rfl, ?_⟩
      have hC : Chg (fun _ => False) w w2 := hc1.trans hc2
      rcases hB.open with ⟨_, h0⟩ | ⟨g, cap, rfl, _, _, _, hcell⟩
      · exact absurd h0 (splitL_ne s)
      have hnl := splitL_length s
      refine WL.op (by decide) (R.lenSlice rfl Tryd.underlying80 rfl) ?_  -- msg.go:88 t16 := (Op.call (Call.mk (Callee.builtin Builtin.len) [t15] [80]))
      refine WL.op (by decide) (R.move rfl) ?_  -- msg.go:88 t17 := (Op.move c(Value.int IntKind.i64 0))
      refine WL.next ?_
      refine CW.block ?_
      refine CW.loopK [0, 15, 16, 17] (fun m l wr => wr = w2 ∧ ∃ (j : Nat) (i : Int), j + m = (splitL s).length ∧ i = (j : Int) ∧ l = [(0, sv s), (15, .slice (some ⟨g, 0, none⟩) (splitL s).length cap), (16, .int .i64 (splitL s).length), (17, .int .i64 i)] ∧ ∀ (k : Nat) (x : List UInt8), k < j → (splitL s)[k]? = some x → rightL x = true) ((splitL s).length) ?_ ?_
      · exact ⟨rfl, 0, _, by omega, rfl, rfl, fun k x hk => by omega⟩
      · rintro m l wr ⟨rfl, j, i, hm, rfl, rfl, hK⟩
        refine CW.rseq ?_  -- region 4
        refine WL.lssS (by decide) rfl rfl (fun h3 => ?_) (fun h3 => ?_)  -- msg.go:88 t18 := (Op.binOp BinOp.lss 3 t17 t16 3)
        · skip
          refine WL.next ?_
          refine CW.seq ?_
          refine CW.condT rfl ?_
          refine CW.skip ?_
          refine EW.next ?_
          refine CW.seq ?_
          refine CW.block ?_
          refine CW.rseq ?_  -- region 5
          have hlt : j < (splitL s).length := by omega
          obtain ⟨x, hx⟩ : ∃ x, (splitL s)[j]? = some x := ⟨(splitL s)[j], List.getElem?_eq_getElem hlt⟩
          have hxl := splitL_label hx
          refine WL.op (by decide) (R.indexAddr1 Tryd.underlying80 sz9 rfl rfl rfl hlt) ?_
          refine WL.op (by decide) (R.load Tryd.underlying9 rfl rfl (by simpa using hcell j x hx)) ?_  -- msg.go:88 t20 := (Op.load 9 t19)
          refine WL.op (by decide) (R.assign rfl) ?_  -- msg.go:88 t4 := (Op.assign t20)
          refine WL.next ?_
          refine CW.rseq ?_  -- region 6
          refine WL.op (by decide) (R.move rfl) ?_  -- msg.go:89 t21 := (Op.move t4)
          refine WL.eff rfl (OP.call (by decide) Tryd.func40 (by kernel_rfl) (by kernel_rfl) rfl (right_any x _ (by omega)) ?_)
          rintro e _ ⟨rfl, rfl⟩
          refine ⟨_, rfl, ?_⟩
          cases hr : rightL x
          · skip
            refine WL.op (by decide) (R.not rfl) ?_
            refine WL.next ?_
            refine CW.condT rfl ?_
            refine CW.rseq ?_  -- region 7
            refine WL.op (by decide) (R.assign rfl) ?_  -- msg.go:90 t2 := (Op.assign c(Value.bool false))
            refine WL.next ?_
            refine CW.ret ?_
            refine EW.inRet ?_
            refine EW.thenRet ?_
            refine EW.thenRet ?_
            refine EW.inRet ?_
            refine EW.thenRet ?_
            refine EW.ret1 (.inl rfl) rfl rfl ⟨?_, hC⟩
            rw [namesL_false (.inr (.inr ⟨j, x, hx, hr⟩))]
          · skip
            refine WL.op (by decide) (R.not rfl) ?_
            refine WL.next ?_
            refine CW.condF rfl ?_
            refine CW.skip ?_
            refine EW.inNormal ?_
            refine EW.next ?_
            refine CW.region ?_  -- region 8
            refine WL.op (by decide) (R.add rfl rfl (by omega)) ?_  -- msg.go:88 t24 := (Op.binOp BinOp.add 3 t17 c(Value.int IntKind.i64 1) 3)
            refine WL.op (by decide) (R.move rfl) ?_  -- msg.go:88 t17 := (Op.move t24)
            refine WL.nil ?_
            exact EW.roundK [0, 15, 16, 17] (m - 1) (by omega) ⟨rfl, j + 1, _, by omega, by omega, rfl, all_step hK hx hr⟩
        · skip
          refine WL.next ?_
          refine CW.seq ?_
          refine CW.condF rfl ?_
          refine CW.exit ?_
          refine EW.thenExit ?_
          refine EW.thenExit ?_
          refine EW.inHere ?_
          refine EW.next ?_
          refine CW.rseq ?_  -- region 9
          refine WL.op (by decide) (R.assign rfl) ?_  -- msg.go:93 t2 := (Op.assign c(Value.bool true))
          refine WL.next ?_
          refine CW.ret ?_
          refine EW.ret1 (.inl rfl) rfl rfl ⟨?_, hC⟩
          rw [namesL_true (by omega) (Classical.not_not.1 h2) (fun k x hk => hK k x (by have := (List.getElem?_eq_some_iff.1 hk).1; omega) hk)]
end Go.Proofs.YthcpjcgjmdfpjaaDoor
