/- label.Right. -/
import Derived.Test.YthcpjcgjmdfpjaaDoorStrs
import Derived.Test.YthcpjcgjmdfpjaaDoorSpec
namespace Go.Proofs.YthcpjcgjmdfpjaaDoor
open Go Go.RowKit
set_option maxRecDepth 100000
set_option maxHeartbeats 1000000

theorem right_any (s : List UInt8) (w : World) (hl : s.length ≤ 1099511627776) :
    Calls Tryd.prog 40 #[sv s] w fun e w' => e = .returned (.bool (rightL s)) ∧ w = w' := by
  refine calls_cw (args := [sv s]) Tryd.func40 rfl rfl ?_
  show CW _ _ _ 74 [(0, sv s)] w
  refine CW.rseq ?_  -- region 0
  refine WL.op (by decide) (R.assign rfl) ?_  -- label.go:18 t2 := (Op.assign c(Value.bool false))
  refine WL.next ?_
  refine CW.seq ?_
  refine CW.rseq ?_  -- region 1
  refine WL.op (by decide) (R.move rfl) ?_  -- label.go:19 t6 := (Op.move t0)
  refine WL.split _ (by decide) (R.eqlStr rfl rfl) (fun h1 => ?_) (fun h1 => ?_)  -- label.go:19 t7 := (Op.binOp BinOp.eql 9 t6 c(Value.string (ByteArray.mk [])) 9)
  · skip
    refine WL.op (by decide) (R.move rfl) ?_  -- label.go:19 t8 := (Op.move t7)
    refine WL.pass (by decide) rfl rfl rfl ?_  -- label.go:19 t9 := (Op.move t0) [guard 2 false]
    refine WL.pass (by decide) rfl rfl rfl ?_  -- label.go:19 t10 := (Op.call (Call.mk (Callee.builtin Builtin.len) [t9] [9])) [guard 2 false]
    refine WL.pass (by decide) rfl rfl rfl ?_  -- label.go:19 t11 := (Op.binOp BinOp.gtr 3 t10 c(Value.int IntKind.i64 63) 3) [guard 2 false]
    refine WL.op (by decide) (R.pickT rfl rfl) ?_  -- label.go:19 t12 := (Op.pick t8 c(Value.bool true) t11)
    refine WL.op (by decide) (R.move rfl) ?_  -- label.go:19 t13 := (Op.move t12)
    refine WL.pass (by decide) rfl rfl rfl ?_  -- label.go:19 t14 := (Op.move t0) [guard 7 false]
    refine WL.pass (by decide) rfl rfl rfl ?_  -- label.go:19 t15 := (Op.index 9 t14 c(Value.int IntKind.i64 0)) [guard 7 false]
    refine WL.pass (by decide) rfl rfl rfl ?_  -- label.go:19 t16 := (Op.binOp BinOp.eql 5 t15 c(Value.int IntKind.u8 45) 5) [guard 7 false]
    refine WL.op (by decide) (R.pickT rfl rfl) ?_  -- label.go:19 t17 := (Op.pick t13 c(Value.bool true) t16)
    refine WL.op (by decide) (R.move rfl) ?_  -- label.go:19 t18 := (Op.move t17)
    refine WL.pass (by decide) rfl rfl rfl ?_  -- label.go:19 t19 := (Op.move t0) [guard 12 false]
    refine WL.pass (by decide) rfl rfl rfl ?_  -- label.go:19 t20 := (Op.move t0) [guard 12 false]
    refine WL.pass (by decide) rfl rfl rfl ?_  -- label.go:19 t21 := (Op.call (Call.mk (Callee.builtin Builtin.len) [t20] [9])) [guard 12 false]
    refine WL.pass (by decide) rfl rfl rfl ?_  -- label.go:19 t22 := (Op.binOp BinOp.sub 3 t21 c(Value.int IntKind.i64 1) 3) [guard 12 false]
    refine WL.pass (by decide) rfl rfl rfl ?_  -- label.go:19 t23 := (Op.index 9 t19 t22) [guard 12 false]
    refine WL.pass (by decide) rfl rfl rfl ?_  -- label.go:19 t24 := (Op.binOp BinOp.eql 5 t23 c(Value.int IntKind.u8 45) 5) [guard 12 false]
    refine WL.op (by decide) (R.pickT rfl rfl) ?_  -- label.go:19 t25 := (Op.pick t18 c(Value.bool true) t24)
    refine WL.next ?_
    refine CW.condT rfl ?_
    refine CW.rseq ?_  -- region 2
    refine WL.op (by decide) (R.assign rfl) ?_  -- label.go:20 t2 := (Op.assign c(Value.bool false))
    refine WL.next ?_
    refine CW.ret ?_
    refine EW.thenRet ?_
    refine EW.ret1 (.inl rfl) rfl rfl ⟨?_, rfl⟩
    rw [rightL_false (.inl h1)]
  · skip
    refine WL.op (by decide) (R.move rfl) ?_  -- label.go:19 t8 := (Op.move t7)
    refine WL.gop (by decide) rfl rfl rfl (R.move rfl) ?_  -- label.go:19 t9 := (Op.move t0) [guard 2 false]
    refine WL.gop (by decide) rfl rfl rfl (R.lenS rfl rfl) ?_  -- label.go:19 t10 := (Op.call (Call.mk (Callee.builtin Builtin.len) [t9] [9])) [guard 2 false]
    refine WL.gsplit _ (by decide) rfl rfl rfl (R.gtrD rfl rfl) (fun h2 => ?_) (fun h2 => ?_)  -- label.go:19 t11 := (Op.binOp BinOp.gtr 3 t10 c(Value.int IntKind.i64 63) 3) [guard 2 false]
    · skip
      refine WL.op (by decide) (R.pickF rfl rfl) ?_  -- label.go:19 t12 := (Op.pick t8 c(Value.bool true) t11)
      refine WL.op (by decide) (R.move rfl) ?_  -- label.go:19 t13 := (Op.move t12)
      refine WL.pass (by decide) rfl rfl rfl ?_  -- label.go:19 t14 := (Op.move t0) [guard 7 false]
      refine WL.pass (by decide) rfl rfl rfl ?_  -- label.go:19 t15 := (Op.index 9 t14 c(Value.int IntKind.i64 0)) [guard 7 false]
      refine WL.pass (by decide) rfl rfl rfl ?_  -- label.go:19 t16 := (Op.binOp BinOp.eql 5 t15 c(Value.int IntKind.u8 45) 5) [guard 7 false]
      refine WL.op (by decide) (R.pickT rfl rfl) ?_  -- label.go:19 t17 := (Op.pick t13 c(Value.bool true) t16)
      refine WL.op (by decide) (R.move rfl) ?_  -- label.go:19 t18 := (Op.move t17)
      refine WL.pass (by decide) rfl rfl rfl ?_  -- label.go:19 t19 := (Op.move t0) [guard 12 false]
      refine WL.pass (by decide) rfl rfl rfl ?_  -- label.go:19 t20 := (Op.move t0) [guard 12 false]
      refine WL.pass (by decide) rfl rfl rfl ?_  -- label.go:19 t21 := (Op.call (Call.mk (Callee.builtin Builtin.len) [t20] [9])) [guard 12 false]
      refine WL.pass (by decide) rfl rfl rfl ?_  -- label.go:19 t22 := (Op.binOp BinOp.sub 3 t21 c(Value.int IntKind.i64 1) 3) [guard 12 false]
      refine WL.pass (by decide) rfl rfl rfl ?_  -- label.go:19 t23 := (Op.index 9 t19 t22) [guard 12 false]
      refine WL.pass (by decide) rfl rfl rfl ?_  -- label.go:19 t24 := (Op.binOp BinOp.eql 5 t23 c(Value.int IntKind.u8 45) 5) [guard 12 false]
      refine WL.op (by decide) (R.pickT rfl rfl) ?_  -- label.go:19 t25 := (Op.pick t18 c(Value.bool true) t24)
      refine WL.next ?_
      refine CW.condT rfl ?_
      refine CW.rseq ?_  -- region 2
      refine WL.op (by decide) (R.assign rfl) ?_  -- label.go:20 t2 := (Op.assign c(Value.bool false))
      refine WL.next ?_
      refine CW.ret ?_
      refine EW.thenRet ?_
      refine EW.ret1 (.inl rfl) rfl rfl ⟨?_, rfl⟩
      rw [rightL_false (.inr (.inl (by omega)))]
    · skip
      refine WL.op (by decide) (R.pickF rfl rfl) ?_  -- label.go:19 t12 := (Op.pick t8 c(Value.bool true) t11)
      refine WL.op (by decide) (R.move rfl) ?_  -- label.go:19 t13 := (Op.move t12)
      obtain ⟨c0, hc0⟩ : ∃ c, s[0]? = some c := by
        cases s with
        | nil => exact absurd rfl h1
        | cons a r => exact ⟨a, rfl⟩
      have hpos : 0 < s.length := (List.getElem?_eq_some_iff.1 hc0).1
      refine WL.gop (by decide) rfl rfl rfl (R.move rfl) ?_
      refine WL.gop (by decide) rfl rfl rfl (R.indexS (i := 0) rfl rfl rfl hc0) ?_  -- label.go:19 t15 := (Op.index 9 t14 c(Value.int IntKind.i64 0)) [guard 7 false]
      refine WL.gsplit _ (by decide) rfl rfl rfl (R.eqlD rfl rfl) (fun h3 => ?_) (fun h3 => ?_)  -- label.go:19 t16 := (Op.binOp BinOp.eql 5 t15 c(Value.int IntKind.u8 45) 5) [guard 7 false]
      · skip
        refine WL.op (by decide) (R.pickF rfl rfl) ?_  -- label.go:19 t17 := (Op.pick t13 c(Value.bool true) t16)
        refine WL.op (by decide) (R.move rfl) ?_  -- label.go:19 t18 := (Op.move t17)
        refine WL.pass (by decide) rfl rfl rfl ?_  -- label.go:19 t19 := (Op.move t0) [guard 12 false]
        refine WL.pass (by decide) rfl rfl rfl ?_  -- label.go:19 t20 := (Op.move t0) [guard 12 false]
        refine WL.pass (by decide) rfl rfl rfl ?_  -- label.go:19 t21 := (Op.call (Call.mk (Callee.builtin Builtin.len) [t20] [9])) [guard 12 false]
        refine WL.pass (by decide) rfl rfl rfl ?_  -- label.go:19 t22 := (Op.binOp BinOp.sub 3 t21 c(Value.int IntKind.i64 1) 3) [guard 12 false]
        refine WL.pass (by decide) rfl rfl rfl ?_  -- label.go:19 t23 := (Op.index 9 t19 t22) [guard 12 false]
        refine WL.pass (by decide) rfl rfl rfl ?_  -- label.go:19 t24 := (Op.binOp BinOp.eql 5 t23 c(Value.int IntKind.u8 45) 5) [guard 12 false]
        refine WL.op (by decide) (R.pickT rfl rfl) ?_  -- label.go:19 t25 := (Op.pick t18 c(Value.bool true) t24)
        refine WL.next ?_
        refine CW.condT rfl ?_
        refine CW.rseq ?_  -- region 2
        refine WL.op (by decide) (R.assign rfl) ?_  -- label.go:20 t2 := (Op.assign c(Value.bool false))
        refine WL.next ?_
        refine CW.ret ?_
        refine EW.thenRet ?_
        refine EW.ret1 (.inl rfl) rfl rfl ⟨?_, rfl⟩
        rw [rightL_false (.inr (.inr (.inl (by rw [hc0]; congr 1; exact c_eq (n := 45) h3))))]
      · skip
        refine WL.op (by decide) (R.pickF rfl rfl) ?_  -- label.go:19 t17 := (Op.pick t13 c(Value.bool true) t16)
        refine WL.op (by decide) (R.move rfl) ?_  -- label.go:19 t18 := (Op.move t17)
        refine WL.gop (by decide) rfl rfl rfl (R.move rfl) ?_  -- label.go:19 t19 := (Op.move t0) [guard 12 false]
        refine WL.gop (by decide) rfl rfl rfl (R.move rfl) ?_  -- label.go:19 t20 := (Op.move t0) [guard 12 false]
        refine WL.gop (by decide) rfl rfl rfl (R.lenS rfl rfl) ?_  -- label.go:19 t21 := (Op.call (Call.mk (Callee.builtin Builtin.len) [t20] [9])) [guard 12 false]
        obtain ⟨cl, hcl⟩ : ∃ c, s[s.length - 1]? = some c := ⟨s[s.length - 1], List.getElem?_eq_getElem (by omega)⟩
        refine WL.gop (by decide) rfl rfl rfl (R.sub rfl rfl (by omega)) ?_
        refine WL.gop (by decide) rfl rfl rfl (R.indexS rfl rfl (by omega) hcl) ?_  -- label.go:19 t23 := (Op.index 9 t19 t22) [guard 12 false]
        refine WL.gsplit _ (by decide) rfl rfl rfl (R.eqlD rfl rfl) (fun h4 => ?_) (fun h4 => ?_)  -- label.go:19 t24 := (Op.binOp BinOp.eql 5 t23 c(Value.int IntKind.u8 45) 5) [guard 12 false]
        · skip
          refine WL.op (by decide) (R.pickF rfl rfl) ?_  -- label.go:19 t25 := (Op.pick t18 c(Value.bool true) t24)
          refine WL.next ?_
          refine CW.condT rfl ?_
          refine CW.rseq ?_  -- region 2
          refine WL.op (by decide) (R.assign rfl) ?_  -- label.go:20 t2 := (Op.assign c(Value.bool false))
          refine WL.next ?_
          refine CW.ret ?_
          refine EW.thenRet ?_
          refine EW.ret1 (.inl rfl) rfl rfl ⟨?_, rfl⟩
          rw [rightL_false (.inr (.inr (.inr (.inl (by rw [hcl]; congr 1; exact c_eq (n := 45) h4)))))]
        · skip
          refine WL.op (by decide) (R.pickF rfl rfl) ?_  -- label.go:19 t25 := (Op.pick t18 c(Value.bool true) t24)
          refine WL.next ?_
          refine CW.condF rfl ?_
          refine CW.skip ?_
          refine EW.next ?_
          refine CW.seq ?_
          refine CW.rseq ?_  -- region 3
          refine WL.op (by decide) (R.move rfl) ?_  -- label.go:22 t26 := (Op.move t0)
          refine WL.op (by decide) (R.lenS rfl rfl) ?_  -- label.go:22 t27 := (Op.call (Call.mk (Callee.builtin Builtin.len) [t26] [9]))
          refine WL.op (by decide) (R.move rfl) ?_  -- label.go:22 t28 := (Op.move c(Value.int IntKind.i64 0))
          refine WL.next ?_
          refine CW.block ?_
          refine CW.loopK [0, 27, 28] (fun m l wr => wr = w ∧ ∃ (j : Nat) (i : Int), j + m = s.length ∧ i = (j : Int) ∧ l = [(0, sv s), (27, .int .i64 s.length), (28, .int .i64 i)] ∧ ∀ (k : Nat) (d : UInt8), k < j → s[k]? = some d → okc d = true) (s.length) ?_ ?_
          · exact ⟨rfl, 0, _, by omega, rfl, rfl, fun k d hk => by omega⟩
          · rintro m l wr ⟨rfl, j, i, hm, rfl, rfl, hK⟩
            refine CW.rseq ?_  -- region 4
            refine WL.lssS (by decide) rfl rfl (fun h5 => ?_) (fun h5 => ?_)  -- label.go:22 t29 := (Op.binOp BinOp.lss 3 t28 t27 3)
            · skip
              refine WL.next ?_
              refine CW.seq ?_
              refine CW.condT rfl ?_
              refine CW.skip ?_
              refine EW.next ?_
              refine CW.seq ?_
              refine CW.block ?_
              refine CW.rseq ?_  -- region 5
              refine WL.op (by decide) (R.move rfl) ?_  -- label.go:22 t30 := (Op.move t28)
              refine WL.op (by decide) (R.assign rfl) ?_  -- label.go:22 t3 := (Op.assign t30)
              refine WL.next ?_
              refine CW.rseq ?_  -- region 6
              have hlt : j < s.length := by omega
              obtain ⟨c, hc⟩ : ∃ c, s[j]? = some c := ⟨s[j], List.getElem?_eq_getElem hlt⟩
              refine WL.op (by decide) (R.move rfl) ?_
              refine WL.op (by decide) (R.move rfl) ?_  -- label.go:23 t32 := (Op.move t3)
              refine WL.op (by decide) (R.indexS rfl rfl rfl hc) ?_  -- label.go:23 t33 := (Op.index 9 t31 t32)
              refine WL.op (by decide) (R.orB (b := 32) rfl rfl) ?_  -- label.go:23 t34 := (Op.binOp BinOp.or 5 t33 c(Value.int IntKind.u8 32) 5)
              refine WL.op (by decide) (R.assign rfl) ?_  -- label.go:23 t4 := (Op.assign t34)
              refine WL.next ?_
              refine CW.rseq ?_  -- region 7
              refine WL.op (by decide) (R.move rfl) ?_  -- label.go:24 t35 := (Op.move t0)
              refine WL.op (by decide) (R.move rfl) ?_  -- label.go:24 t36 := (Op.move t3)
              refine WL.op (by decide) (R.indexS rfl rfl rfl hc) ?_  -- label.go:24 t37 := (Op.index 9 t35 t36)
              refine WL.geqS (by decide) rfl rfl (fun h6 => ?_) (fun h6 => ?_)  -- label.go:24 t38 := (Op.binOp BinOp.geq 5 t37 c(Value.int IntKind.u8 48) 5)
              · skip
                refine WL.op (by decide) (R.move rfl) ?_  -- label.go:24 t39 := (Op.move t38)
                refine WL.gop (by decide) rfl rfl rfl (R.move rfl) ?_  -- label.go:24 t40 := (Op.move t0) [guard 4 true]
                refine WL.gop (by decide) rfl rfl rfl (R.move rfl) ?_  -- label.go:24 t41 := (Op.move t3) [guard 4 true]
                refine WL.gop (by decide) rfl rfl rfl (R.indexS rfl rfl rfl hc) ?_  -- label.go:24 t42 := (Op.index 9 t40 t41) [guard 4 true]
                refine WL.gsplit _ (by decide) rfl rfl rfl (R.leqD rfl rfl) (fun h7 => ?_) (fun h7 => ?_)  -- label.go:24 t43 := (Op.binOp BinOp.leq 5 t42 c(Value.int IntKind.u8 57) 5) [guard 4 true]
                · skip
                  refine WL.op (by decide) (R.pickT rfl rfl) ?_  -- label.go:24 t44 := (Op.pick t39 t43 c(Value.bool false))
                  refine WL.op (by decide) (R.assign rfl) ?_  -- label.go:24 t5 := (Op.assign t44)
                  refine WL.next ?_
                  refine CW.rseq ?_  -- region 8
                  refine WL.op (by decide) (R.move rfl) ?_  -- label.go:25 t45 := (Op.move t5)
                  refine WL.op (by decide) (R.not rfl) ?_  -- label.go:25 t46 := (Op.unOp UnOp.not 4 t45)
                  refine WL.op (by decide) (R.move rfl) ?_  -- label.go:25 t47 := (Op.move t46)
                  refine WL.pass (by decide) rfl rfl rfl ?_  -- label.go:25 t48 := (Op.move t0) [guard 2 true]
                  refine WL.pass (by decide) rfl rfl rfl ?_  -- label.go:25 t49 := (Op.move t3) [guard 2 true]
                  refine WL.pass (by decide) rfl rfl rfl ?_  -- label.go:25 t50 := (Op.index 9 t48 t49) [guard 2 true]
                  refine WL.pass (by decide) rfl rfl rfl ?_  -- label.go:25 t51 := (Op.binOp BinOp.neq 5 t50 c(Value.int IntKind.u8 45) 5) [guard 2 true]
                  refine WL.op (by decide) (R.pickF rfl rfl) ?_  -- label.go:25 t52 := (Op.pick t47 t51 c(Value.bool false))
                  refine WL.op (by decide) (R.move rfl) ?_  -- label.go:25 t53 := (Op.move t52)
                  refine WL.pass (by decide) rfl rfl rfl ?_  -- label.go:25 t54 := (Op.move t0) [guard 8 true]
                  refine WL.pass (by decide) rfl rfl rfl ?_  -- label.go:25 t55 := (Op.move t3) [guard 8 true]
                  refine WL.pass (by decide) rfl rfl rfl ?_  -- label.go:25 t56 := (Op.index 9 t54 t55) [guard 8 true]
                  refine WL.pass (by decide) rfl rfl rfl ?_  -- label.go:25 t57 := (Op.binOp BinOp.neq 5 t56 c(Value.int IntKind.u8 95) 5) [guard 8 true]
                  refine WL.op (by decide) (R.pickF rfl rfl) ?_  -- label.go:25 t58 := (Op.pick t53 t57 c(Value.bool false))
                  refine WL.op (by decide) (R.move rfl) ?_  -- label.go:25 t59 := (Op.move t58)
                  refine WL.pass (by decide) rfl rfl rfl ?_  -- label.go:25 t60 := (Op.move t4) [guard 14 true]
                  refine WL.pass (by decide) rfl rfl rfl ?_  -- label.go:25 t61 := (Op.binOp BinOp.lss 5 t60 c(Value.int IntKind.u8 97) 5) [guard 14 true]
                  refine WL.pass (by decide) rfl rfl rfl ?_  -- label.go:25 t62 := (Op.move t61) [guard 14 true]
                  refine WL.passU (by decide) rfl rfl ?_  -- label.go:25 t63 := (Op.move t4) [guard 17 false]
                  refine WL.passU (by decide) rfl rfl ?_  -- label.go:25 t64 := (Op.binOp BinOp.gtr 5 t63 c(Value.int IntKind.u8 122) 5) [guard 17 false]
                  refine WL.pass (by decide) rfl rfl rfl ?_  -- label.go:25 t65 := (Op.pick t62 c(Value.bool true) t64) [guard 14 true]
                  refine WL.pass (by decide) rfl rfl rfl ?_  -- label.go:25 t66 := (Op.move t65) [guard 14 true]
                  refine WL.passU (by decide) rfl rfl ?_  -- label.go:25 t67 := (Op.move t0) [guard 21 false]
                  refine WL.passU (by decide) rfl rfl ?_  -- label.go:25 t68 := (Op.move t3) [guard 21 false]
                  refine WL.passU (by decide) rfl rfl ?_  -- label.go:25 t69 := (Op.index 9 t67 t68) [guard 21 false]
                  refine WL.passU (by decide) rfl rfl ?_  -- label.go:25 t70 := (Op.binOp BinOp.lss 5 t69 c(Value.int IntKind.u8 65) 5) [guard 21 false]
                  refine WL.pass (by decide) rfl rfl rfl ?_  -- label.go:25 t71 := (Op.pick t66 c(Value.bool true) t70) [guard 14 true]
                  refine WL.op (by decide) (R.pickF rfl rfl) ?_  -- label.go:25 t72 := (Op.pick t59 t71 c(Value.bool false))
                  refine WL.next ?_
                  refine CW.condF rfl ?_
                  refine CW.skip ?_
                  refine EW.inNormal ?_
                  refine EW.next ?_
                  refine CW.region ?_  -- region 10
                  refine WL.op (by decide) (R.add rfl rfl (by omega)) ?_  -- label.go:22 t73 := (Op.binOp BinOp.add 3 t28 c(Value.int IntKind.i64 1) 3)
                  refine WL.op (by decide) (R.move rfl) ?_  -- label.go:22 t28 := (Op.move t73)
                  refine WL.nil ?_
                  exact EW.roundK [0, 27, 28] (m - 1) (by omega) ⟨rfl, j + 1, _, by omega, by omega, rfl, okc_step hK hc (by simp [okc, -UInt8.toNat_or]; omega)⟩
                · skip
                  refine WL.op (by decide) (R.pickT rfl rfl) ?_  -- label.go:24 t44 := (Op.pick t39 t43 c(Value.bool false))
                  refine WL.op (by decide) (R.assign rfl) ?_  -- label.go:24 t5 := (Op.assign t44)
                  refine WL.next ?_
                  refine CW.rseq ?_  -- region 8
                  refine WL.op (by decide) (R.move rfl) ?_  -- label.go:25 t45 := (Op.move t5)
                  refine WL.op (by decide) (R.not rfl) ?_  -- label.go:25 t46 := (Op.unOp UnOp.not 4 t45)
                  refine WL.op (by decide) (R.move rfl) ?_  -- label.go:25 t47 := (Op.move t46)
                  refine WL.gop (by decide) rfl rfl rfl (R.move rfl) ?_  -- label.go:25 t48 := (Op.move t0) [guard 2 true]
                  refine WL.gop (by decide) rfl rfl rfl (R.move rfl) ?_  -- label.go:25 t49 := (Op.move t3) [guard 2 true]
                  refine WL.gop (by decide) rfl rfl rfl (R.indexS rfl rfl rfl hc) ?_  -- label.go:25 t50 := (Op.index 9 t48 t49) [guard 2 true]
                  refine WL.gsplit _ (by decide) rfl rfl rfl (R.neqD rfl rfl) (fun h8 => ?_) (fun h8 => ?_)  -- label.go:25 t51 := (Op.binOp BinOp.neq 5 t50 c(Value.int IntKind.u8 45) 5) [guard 2 true]
                  · skip
                    refine WL.op (by decide) (R.pickT rfl rfl) ?_  -- label.go:25 t52 := (Op.pick t47 t51 c(Value.bool false))
                    refine WL.op (by decide) (R.move rfl) ?_  -- label.go:25 t53 := (Op.move t52)
                    refine WL.gop (by decide) rfl rfl rfl (R.move rfl) ?_  -- label.go:25 t54 := (Op.move t0) [guard 8 true]
                    refine WL.gop (by decide) rfl rfl rfl (R.move rfl) ?_  -- label.go:25 t55 := (Op.move t3) [guard 8 true]
                    refine WL.gop (by decide) rfl rfl rfl (R.indexS rfl rfl rfl hc) ?_  -- label.go:25 t56 := (Op.index 9 t54 t55) [guard 8 true]
                    refine WL.gsplit _ (by decide) rfl rfl rfl (R.neqD rfl rfl) (fun h9 => ?_) (fun h9 => ?_)  -- label.go:25 t57 := (Op.binOp BinOp.neq 5 t56 c(Value.int IntKind.u8 95) 5) [guard 8 true]
                    · skip
                      refine WL.op (by decide) (R.pickT rfl rfl) ?_  -- label.go:25 t58 := (Op.pick t53 t57 c(Value.bool false))
                      refine WL.op (by decide) (R.move rfl) ?_  -- label.go:25 t59 := (Op.move t58)
                      refine WL.gop (by decide) rfl rfl rfl (R.move rfl) ?_  -- label.go:25 t60 := (Op.move t4) [guard 14 true]
                      refine WL.gsplit _ (by decide) rfl rfl rfl (R.lssD rfl rfl) (fun h10 => ?_) (fun h10 => ?_)  -- label.go:25 t61 := (Op.binOp BinOp.lss 5 t60 c(Value.int IntKind.u8 97) 5) [guard 14 true]
                      · skip
                        refine WL.gop (by decide) rfl rfl rfl (R.move rfl) ?_  -- label.go:25 t62 := (Op.move t61) [guard 14 true]
                        refine WL.pass (by decide) rfl rfl rfl ?_  -- label.go:25 t63 := (Op.move t4) [guard 17 false]
                        refine WL.pass (by decide) rfl rfl rfl ?_  -- label.go:25 t64 := (Op.binOp BinOp.gtr 5 t63 c(Value.int IntKind.u8 122) 5) [guard 17 false]
                        refine WL.gop (by decide) rfl rfl rfl (R.pickT rfl rfl) ?_  -- label.go:25 t65 := (Op.pick t62 c(Value.bool true) t64) [guard 14 true]
                        refine WL.gop (by decide) rfl rfl rfl (R.move rfl) ?_  -- label.go:25 t66 := (Op.move t65) [guard 14 true]
                        refine WL.pass (by decide) rfl rfl rfl ?_  -- label.go:25 t67 := (Op.move t0) [guard 21 false]
                        refine WL.pass (by decide) rfl rfl rfl ?_  -- label.go:25 t68 := (Op.move t3) [guard 21 false]
                        refine WL.pass (by decide) rfl rfl rfl ?_  -- label.go:25 t69 := (Op.index 9 t67 t68) [guard 21 false]
                        refine WL.pass (by decide) rfl rfl rfl ?_  -- label.go:25 t70 := (Op.binOp BinOp.lss 5 t69 c(Value.int IntKind.u8 65) 5) [guard 21 false]
                        refine WL.gop (by decide) rfl rfl rfl (R.pickT rfl rfl) ?_  -- label.go:25 t71 := (Op.pick t66 c(Value.bool true) t70) [guard 14 true]
                        refine WL.op (by decide) (R.pickT rfl rfl) ?_  -- label.go:25 t72 := (Op.pick t59 t71 c(Value.bool false))
                        refine WL.next ?_
                        refine CW.condT rfl ?_
                        refine CW.rseq ?_  -- region 9
                        refine WL.op (by decide) (R.assign rfl) ?_  -- label.go:26 t2 := (Op.assign c(Value.bool false))
                        refine WL.next ?_
                        refine CW.ret ?_
                        refine EW.inRet ?_
                        refine EW.thenRet ?_
                        refine EW.thenRet ?_
                        refine EW.inRet ?_
                        refine EW.thenRet ?_
                        refine EW.ret1 (.inl rfl) rfl rfl ⟨?_, rfl⟩
                        rw [rightL_false (.inr (.inr (.inr (.inr ⟨j, c, hc, by simp [okc, -UInt8.toNat_or]; omega⟩))))]
                      · skip
                        refine WL.gop (by decide) rfl rfl rfl (R.move rfl) ?_  -- label.go:25 t62 := (Op.move t61) [guard 14 true]
                        refine WL.gop (by decide) rfl rfl rfl (R.move rfl) ?_  -- label.go:25 t63 := (Op.move t4) [guard 17 false]
                        refine WL.gsplit _ (by decide) rfl rfl rfl (R.gtrD rfl rfl) (fun h11 => ?_) (fun h11 => ?_)  -- label.go:25 t64 := (Op.binOp BinOp.gtr 5 t63 c(Value.int IntKind.u8 122) 5) [guard 17 false]
                        · skip
                          refine WL.gop (by decide) rfl rfl rfl (R.pickF rfl rfl) ?_  -- label.go:25 t65 := (Op.pick t62 c(Value.bool true) t64) [guard 14 true]
                          refine WL.gop (by decide) rfl rfl rfl (R.move rfl) ?_  -- label.go:25 t66 := (Op.move t65) [guard 14 true]
                          refine WL.pass (by decide) rfl rfl rfl ?_  -- label.go:25 t67 := (Op.move t0) [guard 21 false]
                          refine WL.pass (by decide) rfl rfl rfl ?_  -- label.go:25 t68 := (Op.move t3) [guard 21 false]
                          refine WL.pass (by decide) rfl rfl rfl ?_  -- label.go:25 t69 := (Op.index 9 t67 t68) [guard 21 false]
                          refine WL.pass (by decide) rfl rfl rfl ?_  -- label.go:25 t70 := (Op.binOp BinOp.lss 5 t69 c(Value.int IntKind.u8 65) 5) [guard 21 false]
                          refine WL.gop (by decide) rfl rfl rfl (R.pickT rfl rfl) ?_  -- label.go:25 t71 := (Op.pick t66 c(Value.bool true) t70) [guard 14 true]
                          refine WL.op (by decide) (R.pickT rfl rfl) ?_  -- label.go:25 t72 := (Op.pick t59 t71 c(Value.bool false))
                          refine WL.next ?_
                          refine CW.condT rfl ?_
                          refine CW.rseq ?_  -- region 9
                          refine WL.op (by decide) (R.assign rfl) ?_  -- label.go:26 t2 := (Op.assign c(Value.bool false))
                          refine WL.next ?_
                          refine CW.ret ?_
                          refine EW.inRet ?_
                          refine EW.thenRet ?_
                          refine EW.thenRet ?_
                          refine EW.inRet ?_
                          refine EW.thenRet ?_
                          refine EW.ret1 (.inl rfl) rfl rfl ⟨?_, rfl⟩
                          rw [rightL_false (.inr (.inr (.inr (.inr ⟨j, c, hc, by simp [okc, -UInt8.toNat_or]; omega⟩))))]
                        · skip
                          refine WL.gop (by decide) rfl rfl rfl (R.pickF rfl rfl) ?_  -- label.go:25 t65 := (Op.pick t62 c(Value.bool true) t64) [guard 14 true]
                          refine WL.gop (by decide) rfl rfl rfl (R.move rfl) ?_  -- label.go:25 t66 := (Op.move t65) [guard 14 true]
                          refine WL.gop (by decide) rfl rfl rfl (R.move rfl) ?_  -- label.go:25 t67 := (Op.move t0) [guard 21 false]
                          refine WL.gop (by decide) rfl rfl rfl (R.move rfl) ?_  -- label.go:25 t68 := (Op.move t3) [guard 21 false]
                          refine WL.gop (by decide) rfl rfl rfl (R.indexS rfl rfl rfl hc) ?_  -- label.go:25 t69 := (Op.index 9 t67 t68) [guard 21 false]
                          refine WL.gsplit _ (by decide) rfl rfl rfl (R.lssD rfl rfl) (fun h12 => ?_) (fun h12 => ?_)  -- label.go:25 t70 := (Op.binOp BinOp.lss 5 t69 c(Value.int IntKind.u8 65) 5) [guard 21 false]
                          · skip
                            refine WL.gop (by decide) rfl rfl rfl (R.pickF rfl rfl) ?_  -- label.go:25 t71 := (Op.pick t66 c(Value.bool true) t70) [guard 14 true]
                            refine WL.op (by decide) (R.pickT rfl rfl) ?_  -- label.go:25 t72 := (Op.pick t59 t71 c(Value.bool false))
                            refine WL.next ?_
                            refine CW.condT rfl ?_
                            refine CW.rseq ?_  -- region 9
                            refine WL.op (by decide) (R.assign rfl) ?_  -- label.go:26 t2 := (Op.assign c(Value.bool false))
                            refine WL.next ?_
                            refine CW.ret ?_
                            refine EW.inRet ?_
                            refine EW.thenRet ?_
                            refine EW.thenRet ?_
                            refine EW.inRet ?_
                            refine EW.thenRet ?_
                            refine EW.ret1 (.inl rfl) rfl rfl ⟨?_, rfl⟩
                            rw [rightL_false (.inr (.inr (.inr (.inr ⟨j, c, hc, by simp [okc, -UInt8.toNat_or]; omega⟩))))]
                          · skip
                            refine WL.gop (by decide) rfl rfl rfl (R.pickF rfl rfl) ?_  -- label.go:25 t71 := (Op.pick t66 c(Value.bool true) t70) [guard 14 true]
                            refine WL.op (by decide) (R.pickT rfl rfl) ?_  -- label.go:25 t72 := (Op.pick t59 t71 c(Value.bool false))
                            refine WL.next ?_
                            refine CW.condF rfl ?_
                            refine CW.skip ?_
                            refine EW.inNormal ?_
                            refine EW.next ?_
                            refine CW.region ?_  -- region 10
                            refine WL.op (by decide) (R.add rfl rfl (by omega)) ?_  -- label.go:22 t73 := (Op.binOp BinOp.add 3 t28 c(Value.int IntKind.i64 1) 3)
                            refine WL.op (by decide) (R.move rfl) ?_  -- label.go:22 t28 := (Op.move t73)
                            refine WL.nil ?_
                            exact EW.roundK [0, 27, 28] (m - 1) (by omega) ⟨rfl, j + 1, _, by omega, by omega, rfl, okc_step hK hc (by simp [okc, -UInt8.toNat_or]; omega)⟩
                    · skip
                      refine WL.op (by decide) (R.pickT rfl rfl) ?_  -- label.go:25 t58 := (Op.pick t53 t57 c(Value.bool false))
                      refine WL.op (by decide) (R.move rfl) ?_  -- label.go:25 t59 := (Op.move t58)
                      refine WL.pass (by decide) rfl rfl rfl ?_  -- label.go:25 t60 := (Op.move t4) [guard 14 true]
                      refine WL.pass (by decide) rfl rfl rfl ?_  -- label.go:25 t61 := (Op.binOp BinOp.lss 5 t60 c(Value.int IntKind.u8 97) 5) [guard 14 true]
                      refine WL.pass (by decide) rfl rfl rfl ?_  -- label.go:25 t62 := (Op.move t61) [guard 14 true]
                      refine WL.passU (by decide) rfl rfl ?_  -- label.go:25 t63 := (Op.move t4) [guard 17 false]
                      refine WL.passU (by decide) rfl rfl ?_  -- label.go:25 t64 := (Op.binOp BinOp.gtr 5 t63 c(Value.int IntKind.u8 122) 5) [guard 17 false]
                      refine WL.pass (by decide) rfl rfl rfl ?_  -- label.go:25 t65 := (Op.pick t62 c(Value.bool true) t64) [guard 14 true]
                      refine WL.pass (by decide) rfl rfl rfl ?_  -- label.go:25 t66 := (Op.move t65) [guard 14 true]
                      refine WL.passU (by decide) rfl rfl ?_  -- label.go:25 t67 := (Op.move t0) [guard 21 false]
                      refine WL.passU (by decide) rfl rfl ?_  -- label.go:25 t68 := (Op.move t3) [guard 21 false]
                      refine WL.passU (by decide) rfl rfl ?_  -- label.go:25 t69 := (Op.index 9 t67 t68) [guard 21 false]
                      refine WL.passU (by decide) rfl rfl ?_  -- label.go:25 t70 := (Op.binOp BinOp.lss 5 t69 c(Value.int IntKind.u8 65) 5) [guard 21 false]
                      refine WL.pass (by decide) rfl rfl rfl ?_  -- label.go:25 t71 := (Op.pick t66 c(Value.bool true) t70) [guard 14 true]
                      refine WL.op (by decide) (R.pickF rfl rfl) ?_  -- label.go:25 t72 := (Op.pick t59 t71 c(Value.bool false))
                      refine WL.next ?_
                      refine CW.condF rfl ?_
                      refine CW.skip ?_
                      refine EW.inNormal ?_
                      refine EW.next ?_
                      refine CW.region ?_  -- region 10
                      refine WL.op (by decide) (R.add rfl rfl (by omega)) ?_  -- label.go:22 t73 := (Op.binOp BinOp.add 3 t28 c(Value.int IntKind.i64 1) 3)
                      refine WL.op (by decide) (R.move rfl) ?_  -- label.go:22 t28 := (Op.move t73)
                      refine WL.nil ?_
                      exact EW.roundK [0, 27, 28] (m - 1) (by omega) ⟨rfl, j + 1, _, by omega, by omega, rfl, okc_step hK hc (by simp [okc, -UInt8.toNat_or]; omega)⟩
                  · skip
                    refine WL.op (by decide) (R.pickT rfl rfl) ?_  -- label.go:25 t52 := (Op.pick t47 t51 c(Value.bool false))
                    refine WL.op (by decide) (R.move rfl) ?_  -- label.go:25 t53 := (Op.move t52)
                    refine WL.pass (by decide) rfl rfl rfl ?_  -- label.go:25 t54 := (Op.move t0) [guard 8 true]
                    refine WL.pass (by decide) rfl rfl rfl ?_  -- label.go:25 t55 := (Op.move t3) [guard 8 true]
                    refine WL.pass (by decide) rfl rfl rfl ?_  -- label.go:25 t56 := (Op.index 9 t54 t55) [guard 8 true]
                    refine WL.pass (by decide) rfl rfl rfl ?_  -- label.go:25 t57 := (Op.binOp BinOp.neq 5 t56 c(Value.int IntKind.u8 95) 5) [guard 8 true]
                    refine WL.op (by decide) (R.pickF rfl rfl) ?_  -- label.go:25 t58 := (Op.pick t53 t57 c(Value.bool false))
                    refine WL.op (by decide) (R.move rfl) ?_  -- label.go:25 t59 := (Op.move t58)
                    refine WL.pass (by decide) rfl rfl rfl ?_  -- label.go:25 t60 := (Op.move t4) [guard 14 true]
                    refine WL.pass (by decide) rfl rfl rfl ?_  -- label.go:25 t61 := (Op.binOp BinOp.lss 5 t60 c(Value.int IntKind.u8 97) 5) [guard 14 true]
                    refine WL.pass (by decide) rfl rfl rfl ?_  -- label.go:25 t62 := (Op.move t61) [guard 14 true]
                    refine WL.passU (by decide) rfl rfl ?_  -- label.go:25 t63 := (Op.move t4) [guard 17 false]
                    refine WL.passU (by decide) rfl rfl ?_  -- label.go:25 t64 := (Op.binOp BinOp.gtr 5 t63 c(Value.int IntKind.u8 122) 5) [guard 17 false]
                    refine WL.pass (by decide) rfl rfl rfl ?_  -- label.go:25 t65 := (Op.pick t62 c(Value.bool true) t64) [guard 14 true]
                    refine WL.pass (by decide) rfl rfl rfl ?_  -- label.go:25 t66 := (Op.move t65) [guard 14 true]
                    refine WL.passU (by decide) rfl rfl ?_  -- label.go:25 t67 := (Op.move t0) [guard 21 false]
                    refine WL.passU (by decide) rfl rfl ?_  -- label.go:25 t68 := (Op.move t3) [guard 21 false]
                    refine WL.passU (by decide) rfl rfl ?_  -- label.go:25 t69 := (Op.index 9 t67 t68) [guard 21 false]
                    refine WL.passU (by decide) rfl rfl ?_  -- label.go:25 t70 := (Op.binOp BinOp.lss 5 t69 c(Value.int IntKind.u8 65) 5) [guard 21 false]
                    refine WL.pass (by decide) rfl rfl rfl ?_  -- label.go:25 t71 := (Op.pick t66 c(Value.bool true) t70) [guard 14 true]
                    refine WL.op (by decide) (R.pickF rfl rfl) ?_  -- label.go:25 t72 := (Op.pick t59 t71 c(Value.bool false))
                    refine WL.next ?_
                    refine CW.condF rfl ?_
                    refine CW.skip ?_
                    refine EW.inNormal ?_
                    refine EW.next ?_
                    refine CW.region ?_  -- region 10
                    refine WL.op (by decide) (R.add rfl rfl (by omega)) ?_  -- label.go:22 t73 := (Op.binOp BinOp.add 3 t28 c(Value.int IntKind.i64 1) 3)
                    refine WL.op (by decide) (R.move rfl) ?_  -- label.go:22 t28 := (Op.move t73)
                    refine WL.nil ?_
                    exact EW.roundK [0, 27, 28] (m - 1) (by omega) ⟨rfl, j + 1, _, by omega, by omega, rfl, okc_step hK hc (by simp [okc, -UInt8.toNat_or]; omega)⟩
              · skip
                refine WL.op (by decide) (R.move rfl) ?_  -- label.go:24 t39 := (Op.move t38)
                refine WL.pass (by decide) rfl rfl rfl ?_  -- label.go:24 t40 := (Op.move t0) [guard 4 true]
                refine WL.pass (by decide) rfl rfl rfl ?_  -- label.go:24 t41 := (Op.move t3) [guard 4 true]
                refine WL.pass (by decide) rfl rfl rfl ?_  -- label.go:24 t42 := (Op.index 9 t40 t41) [guard 4 true]
                refine WL.pass (by decide) rfl rfl rfl ?_  -- label.go:24 t43 := (Op.binOp BinOp.leq 5 t42 c(Value.int IntKind.u8 57) 5) [guard 4 true]
                refine WL.op (by decide) (R.pickF rfl rfl) ?_  -- label.go:24 t44 := (Op.pick t39 t43 c(Value.bool false))
                refine WL.op (by decide) (R.assign rfl) ?_  -- label.go:24 t5 := (Op.assign t44)
                refine WL.next ?_
                refine CW.rseq ?_  -- region 8
                refine WL.op (by decide) (R.move rfl) ?_  -- label.go:25 t45 := (Op.move t5)
                refine WL.op (by decide) (R.not rfl) ?_  -- label.go:25 t46 := (Op.unOp UnOp.not 4 t45)
                refine WL.op (by decide) (R.move rfl) ?_  -- label.go:25 t47 := (Op.move t46)
                refine WL.gop (by decide) rfl rfl rfl (R.move rfl) ?_  -- label.go:25 t48 := (Op.move t0) [guard 2 true]
                refine WL.gop (by decide) rfl rfl rfl (R.move rfl) ?_  -- label.go:25 t49 := (Op.move t3) [guard 2 true]
                refine WL.gop (by decide) rfl rfl rfl (R.indexS rfl rfl rfl hc) ?_  -- label.go:25 t50 := (Op.index 9 t48 t49) [guard 2 true]
                refine WL.gsplit _ (by decide) rfl rfl rfl (R.neqD rfl rfl) (fun h13 => ?_) (fun h13 => ?_)  -- label.go:25 t51 := (Op.binOp BinOp.neq 5 t50 c(Value.int IntKind.u8 45) 5) [guard 2 true]
                · skip
                  refine WL.op (by decide) (R.pickT rfl rfl) ?_  -- label.go:25 t52 := (Op.pick t47 t51 c(Value.bool false))
                  refine WL.op (by decide) (R.move rfl) ?_  -- label.go:25 t53 := (Op.move t52)
                  refine WL.gop (by decide) rfl rfl rfl (R.move rfl) ?_  -- label.go:25 t54 := (Op.move t0) [guard 8 true]
                  refine WL.gop (by decide) rfl rfl rfl (R.move rfl) ?_  -- label.go:25 t55 := (Op.move t3) [guard 8 true]
                  refine WL.gop (by decide) rfl rfl rfl (R.indexS rfl rfl rfl hc) ?_  -- label.go:25 t56 := (Op.index 9 t54 t55) [guard 8 true]
                  refine WL.gsplit _ (by decide) rfl rfl rfl (R.neqD rfl rfl) (fun h14 => ?_) (fun h14 => ?_)  -- label.go:25 t57 := (Op.binOp BinOp.neq 5 t56 c(Value.int IntKind.u8 95) 5) [guard 8 true]
                  · skip
                    refine WL.op (by decide) (R.pickT rfl rfl) ?_  -- label.go:25 t58 := (Op.pick t53 t57 c(Value.bool false))
                    refine WL.op (by decide) (R.move rfl) ?_  -- label.go:25 t59 := (Op.move t58)
                    refine WL.gop (by decide) rfl rfl rfl (R.move rfl) ?_  -- label.go:25 t60 := (Op.move t4) [guard 14 true]
                    refine WL.gsplit _ (by decide) rfl rfl rfl (R.lssD rfl rfl) (fun h15 => ?_) (fun h15 => ?_)  -- label.go:25 t61 := (Op.binOp BinOp.lss 5 t60 c(Value.int IntKind.u8 97) 5) [guard 14 true]
                    · skip
                      refine WL.gop (by decide) rfl rfl rfl (R.move rfl) ?_  -- label.go:25 t62 := (Op.move t61) [guard 14 true]
                      refine WL.pass (by decide) rfl rfl rfl ?_  -- label.go:25 t63 := (Op.move t4) [guard 17 false]
                      refine WL.pass (by decide) rfl rfl rfl ?_  -- label.go:25 t64 := (Op.binOp BinOp.gtr 5 t63 c(Value.int IntKind.u8 122) 5) [guard 17 false]
                      refine WL.gop (by decide) rfl rfl rfl (R.pickT rfl rfl) ?_  -- label.go:25 t65 := (Op.pick t62 c(Value.bool true) t64) [guard 14 true]
                      refine WL.gop (by decide) rfl rfl rfl (R.move rfl) ?_  -- label.go:25 t66 := (Op.move t65) [guard 14 true]
                      refine WL.pass (by decide) rfl rfl rfl ?_  -- label.go:25 t67 := (Op.move t0) [guard 21 false]
                      refine WL.pass (by decide) rfl rfl rfl ?_  -- label.go:25 t68 := (Op.move t3) [guard 21 false]
                      refine WL.pass (by decide) rfl rfl rfl ?_  -- label.go:25 t69 := (Op.index 9 t67 t68) [guard 21 false]
                      refine WL.pass (by decide) rfl rfl rfl ?_  -- label.go:25 t70 := (Op.binOp BinOp.lss 5 t69 c(Value.int IntKind.u8 65) 5) [guard 21 false]
                      refine WL.gop (by decide) rfl rfl rfl (R.pickT rfl rfl) ?_  -- label.go:25 t71 := (Op.pick t66 c(Value.bool true) t70) [guard 14 true]
                      refine WL.op (by decide) (R.pickT rfl rfl) ?_  -- label.go:25 t72 := (Op.pick t59 t71 c(Value.bool false))
                      refine WL.next ?_
                      refine CW.condT rfl ?_
                      refine CW.rseq ?_  -- region 9
                      refine WL.op (by decide) (R.assign rfl) ?_  -- label.go:26 t2 := (Op.assign c(Value.bool false))
                      refine WL.next ?_
                      refine CW.ret ?_
                      refine EW.inRet ?_
                      refine EW.thenRet ?_
                      refine EW.thenRet ?_
                      refine EW.inRet ?_
                      refine EW.thenRet ?_
                      refine EW.ret1 (.inl rfl) rfl rfl ⟨?_, rfl⟩
                      rw [rightL_false (.inr (.inr (.inr (.inr ⟨j, c, hc, by simp [okc, -UInt8.toNat_or]; omega⟩))))]
                    · skip
                      refine WL.gop (by decide) rfl rfl rfl (R.move rfl) ?_  -- label.go:25 t62 := (Op.move t61) [guard 14 true]
                      refine WL.gop (by decide) rfl rfl rfl (R.move rfl) ?_  -- label.go:25 t63 := (Op.move t4) [guard 17 false]
                      refine WL.gsplit _ (by decide) rfl rfl rfl (R.gtrD rfl rfl) (fun h16 => ?_) (fun h16 => ?_)  -- label.go:25 t64 := (Op.binOp BinOp.gtr 5 t63 c(Value.int IntKind.u8 122) 5) [guard 17 false]
                      · skip
                        refine WL.gop (by decide) rfl rfl rfl (R.pickF rfl rfl) ?_  -- label.go:25 t65 := (Op.pick t62 c(Value.bool true) t64) [guard 14 true]
                        refine WL.gop (by decide) rfl rfl rfl (R.move rfl) ?_  -- label.go:25 t66 := (Op.move t65) [guard 14 true]
                        refine WL.pass (by decide) rfl rfl rfl ?_  -- label.go:25 t67 := (Op.move t0) [guard 21 false]
                        refine WL.pass (by decide) rfl rfl rfl ?_  -- label.go:25 t68 := (Op.move t3) [guard 21 false]
                        refine WL.pass (by decide) rfl rfl rfl ?_  -- label.go:25 t69 := (Op.index 9 t67 t68) [guard 21 false]
                        refine WL.pass (by decide) rfl rfl rfl ?_  -- label.go:25 t70 := (Op.binOp BinOp.lss 5 t69 c(Value.int IntKind.u8 65) 5) [guard 21 false]
                        refine WL.gop (by decide) rfl rfl rfl (R.pickT rfl rfl) ?_  -- label.go:25 t71 := (Op.pick t66 c(Value.bool true) t70) [guard 14 true]
                        refine WL.op (by decide) (R.pickT rfl rfl) ?_  -- label.go:25 t72 := (Op.pick t59 t71 c(Value.bool false))
                        refine WL.next ?_
                        refine CW.condT rfl ?_
                        refine CW.rseq ?_  -- region 9
                        refine WL.op (by decide) (R.assign rfl) ?_  -- label.go:26 t2 := (Op.assign c(Value.bool false))
                        refine WL.next ?_
                        refine CW.ret ?_
                        refine EW.inRet ?_
                        refine EW.thenRet ?_
                        refine EW.thenRet ?_
                        refine EW.inRet ?_
                        refine EW.thenRet ?_
                        refine EW.ret1 (.inl rfl) rfl rfl ⟨?_, rfl⟩
                        rw [rightL_false (.inr (.inr (.inr (.inr ⟨j, c, hc, by simp [okc, -UInt8.toNat_or]; omega⟩))))]
                      · skip
                        refine WL.gop (by decide) rfl rfl rfl (R.pickF rfl rfl) ?_  -- label.go:25 t65 := (Op.pick t62 c(Value.bool true) t64) [guard 14 true]
                        refine WL.gop (by decide) rfl rfl rfl (R.move rfl) ?_  -- label.go:25 t66 := (Op.move t65) [guard 14 true]
                        refine WL.gop (by decide) rfl rfl rfl (R.move rfl) ?_  -- label.go:25 t67 := (Op.move t0) [guard 21 false]
                        refine WL.gop (by decide) rfl rfl rfl (R.move rfl) ?_  -- label.go:25 t68 := (Op.move t3) [guard 21 false]
                        refine WL.gop (by decide) rfl rfl rfl (R.indexS rfl rfl rfl hc) ?_  -- label.go:25 t69 := (Op.index 9 t67 t68) [guard 21 false]
                        refine WL.gsplit _ (by decide) rfl rfl rfl (R.lssD rfl rfl) (fun h17 => ?_) (fun h17 => ?_)  -- label.go:25 t70 := (Op.binOp BinOp.lss 5 t69 c(Value.int IntKind.u8 65) 5) [guard 21 false]
                        · skip
                          refine WL.gop (by decide) rfl rfl rfl (R.pickF rfl rfl) ?_  -- label.go:25 t71 := (Op.pick t66 c(Value.bool true) t70) [guard 14 true]
                          refine WL.op (by decide) (R.pickT rfl rfl) ?_  -- label.go:25 t72 := (Op.pick t59 t71 c(Value.bool false))
                          refine WL.next ?_
                          refine CW.condT rfl ?_
                          refine CW.rseq ?_  -- region 9
                          refine WL.op (by decide) (R.assign rfl) ?_  -- label.go:26 t2 := (Op.assign c(Value.bool false))
                          refine WL.next ?_
                          refine CW.ret ?_
                          refine EW.inRet ?_
                          refine EW.thenRet ?_
                          refine EW.thenRet ?_
                          refine EW.inRet ?_
                          refine EW.thenRet ?_
                          refine EW.ret1 (.inl rfl) rfl rfl ⟨?_, rfl⟩
                          rw [rightL_false (.inr (.inr (.inr (.inr ⟨j, c, hc, by simp [okc, -UInt8.toNat_or]; omega⟩))))]
                        · skip
                          refine WL.gop (by decide) rfl rfl rfl (R.pickF rfl rfl) ?_  -- label.go:25 t71 := (Op.pick t66 c(Value.bool true) t70) [guard 14 true]
                          refine WL.op (by decide) (R.pickT rfl rfl) ?_  -- label.go:25 t72 := (Op.pick t59 t71 c(Value.bool false))
                          refine WL.next ?_
                          refine CW.condF rfl ?_
                          refine CW.skip ?_
                          refine EW.inNormal ?_
                          refine EW.next ?_
                          refine CW.region ?_  -- region 10
                          refine WL.op (by decide) (R.add rfl rfl (by omega)) ?_  -- label.go:22 t73 := (Op.binOp BinOp.add 3 t28 c(Value.int IntKind.i64 1) 3)
                          refine WL.op (by decide) (R.move rfl) ?_  -- label.go:22 t28 := (Op.move t73)
                          refine WL.nil ?_
                          exact EW.roundK [0, 27, 28] (m - 1) (by omega) ⟨rfl, j + 1, _, by omega, by omega, rfl, okc_step hK hc (by simp [okc, -UInt8.toNat_or]; omega)⟩
                  · skip
                    refine WL.op (by decide) (R.pickT rfl rfl) ?_  -- label.go:25 t58 := (Op.pick t53 t57 c(Value.bool false))
                    refine WL.op (by decide) (R.move rfl) ?_  -- label.go:25 t59 := (Op.move t58)
                    refine WL.pass (by decide) rfl rfl rfl ?_  -- label.go:25 t60 := (Op.move t4) [guard 14 true]
                    refine WL.pass (by decide) rfl rfl rfl ?_  -- label.go:25 t61 := (Op.binOp BinOp.lss 5 t60 c(Value.int IntKind.u8 97) 5) [guard 14 true]
                    refine WL.pass (by decide) rfl rfl rfl ?_  -- label.go:25 t62 := (Op.move t61) [guard 14 true]
                    refine WL.passU (by decide) rfl rfl ?_  -- label.go:25 t63 := (Op.move t4) [guard 17 false]
                    refine WL.passU (by decide) rfl rfl ?_  -- label.go:25 t64 := (Op.binOp BinOp.gtr 5 t63 c(Value.int IntKind.u8 122) 5) [guard 17 false]
                    refine WL.pass (by decide) rfl rfl rfl ?_  -- label.go:25 t65 := (Op.pick t62 c(Value.bool true) t64) [guard 14 true]
                    refine WL.pass (by decide) rfl rfl rfl ?_  -- label.go:25 t66 := (Op.move t65) [guard 14 true]
                    refine WL.passU (by decide) rfl rfl ?_  -- label.go:25 t67 := (Op.move t0) [guard 21 false]
                    refine WL.passU (by decide) rfl rfl ?_  -- label.go:25 t68 := (Op.move t3) [guard 21 false]
                    refine WL.passU (by decide) rfl rfl ?_  -- label.go:25 t69 := (Op.index 9 t67 t68) [guard 21 false]
                    refine WL.passU (by decide) rfl rfl ?_  -- label.go:25 t70 := (Op.binOp BinOp.lss 5 t69 c(Value.int IntKind.u8 65) 5) [guard 21 false]
                    refine WL.pass (by decide) rfl rfl rfl ?_  -- label.go:25 t71 := (Op.pick t66 c(Value.bool true) t70) [guard 14 true]
                    refine WL.op (by decide) (R.pickF rfl rfl) ?_  -- label.go:25 t72 := (Op.pick t59 t71 c(Value.bool false))
                    refine WL.next ?_
                    refine CW.condF rfl ?_
                    refine CW.skip ?_
                    refine EW.inNormal ?_
                    refine EW.next ?_
                    refine CW.region ?_  -- region 10
                    refine WL.op (by decide) (R.add rfl rfl (by omega)) ?_  -- label.go:22 t73 := (Op.binOp BinOp.add 3 t28 c(Value.int IntKind.i64 1) 3)
                    refine WL.op (by decide) (R.move rfl) ?_  -- label.go:22 t28 := (Op.move t73)
                    refine WL.nil ?_
                    exact EW.roundK [0, 27, 28] (m - 1) (by omega) ⟨rfl, j + 1, _, by omega, by omega, rfl, okc_step hK hc (by simp [okc, -UInt8.toNat_or]; omega)⟩
                · skip
                  refine WL.op (by decide) (R.pickT rfl rfl) ?_  -- label.go:25 t52 := (Op.pick t47 t51 c(Value.bool false))
                  refine WL.op (by decide) (R.move rfl) ?_  -- label.go:25 t53 := (Op.move t52)
                  refine WL.pass (by decide) rfl rfl rfl ?_  -- label.go:25 t54 := (Op.move t0) [guard 8 true]
                  refine WL.pass (by decide) rfl rfl rfl ?_  -- label.go:25 t55 := (Op.move t3) [guard 8 true]
                  refine WL.pass (by decide) rfl rfl rfl ?_  -- label.go:25 t56 := (Op.index 9 t54 t55) [guard 8 true]
                  refine WL.pass (by decide) rfl rfl rfl ?_  -- label.go:25 t57 := (Op.binOp BinOp.neq 5 t56 c(Value.int IntKind.u8 95) 5) [guard 8 true]
                  refine WL.op (by decide) (R.pickF rfl rfl) ?_  -- label.go:25 t58 := (Op.pick t53 t57 c(Value.bool false))
                  refine WL.op (by decide) (R.move rfl) ?_  -- label.go:25 t59 := (Op.move t58)
                  refine WL.pass (by decide) rfl rfl rfl ?_  -- label.go:25 t60 := (Op.move t4) [guard 14 true]
                  refine WL.pass (by decide) rfl rfl rfl ?_  -- label.go:25 t61 := (Op.binOp BinOp.lss 5 t60 c(Value.int IntKind.u8 97) 5) [guard 14 true]
                  refine WL.pass (by decide) rfl rfl rfl ?_  -- label.go:25 t62 := (Op.move t61) [guard 14 true]
                  refine WL.passU (by decide) rfl rfl ?_  -- label.go:25 t63 := (Op.move t4) [guard 17 false]
                  refine WL.passU (by decide) rfl rfl ?_  -- label.go:25 t64 := (Op.binOp BinOp.gtr 5 t63 c(Value.int IntKind.u8 122) 5) [guard 17 false]
                  refine WL.pass (by decide) rfl rfl rfl ?_  -- label.go:25 t65 := (Op.pick t62 c(Value.bool true) t64) [guard 14 true]
                  refine WL.pass (by decide) rfl rfl rfl ?_  -- label.go:25 t66 := (Op.move t65) [guard 14 true]
                  refine WL.passU (by decide) rfl rfl ?_  -- label.go:25 t67 := (Op.move t0) [guard 21 false]
                  refine WL.passU (by decide) rfl rfl ?_  -- label.go:25 t68 := (Op.move t3) [guard 21 false]
                  refine WL.passU (by decide) rfl rfl ?_  -- label.go:25 t69 := (Op.index 9 t67 t68) [guard 21 false]
                  refine WL.passU (by decide) rfl rfl ?_  -- label.go:25 t70 := (Op.binOp BinOp.lss 5 t69 c(Value.int IntKind.u8 65) 5) [guard 21 false]
                  refine WL.pass (by decide) rfl rfl rfl ?_  -- label.go:25 t71 := (Op.pick t66 c(Value.bool true) t70) [guard 14 true]
                  refine WL.op (by decide) (R.pickF rfl rfl) ?_  -- label.go:25 t72 := (Op.pick t59 t71 c(Value.bool false))
                  refine WL.next ?_
                  refine CW.condF rfl ?_
                  refine CW.skip ?_
                  refine EW.inNormal ?_
                  refine EW.next ?_
                  refine CW.region ?_  -- region 10
                  refine WL.op (by decide) (R.add rfl rfl (by omega)) ?_  -- label.go:22 t73 := (Op.binOp BinOp.add 3 t28 c(Value.int IntKind.i64 1) 3)
                  refine WL.op (by decide) (R.move rfl) ?_  -- label.go:22 t28 := (Op.move t73)
                  refine WL.nil ?_
                  exact EW.roundK [0, 27, 28] (m - 1) (by omega) ⟨rfl, j + 1, _, by omega, by omega, rfl, okc_step hK hc (by simp [okc, -UInt8.toNat_or]; omega)⟩
            · skip
              refine WL.next ?_
              refine CW.seq ?_
              refine CW.condF rfl ?_
              refine CW.exit ?_
              refine EW.thenExit ?_
              refine EW.thenExit ?_
              refine EW.inHere ?_
              refine EW.next ?_
              refine CW.rseq ?_  -- region 11
              refine WL.op (by decide) (R.assign rfl) ?_  -- label.go:29 t2 := (Op.assign c(Value.bool true))
              refine WL.next ?_
              refine CW.ret ?_
              refine EW.ret1 (.inl rfl) rfl rfl ⟨?_, rfl⟩
              rw [rightL_true h1 (by omega) (fun e => h3 (by rw [hc0] at e; obtain rfl := Option.some.inj e; rfl)) (fun e => h4 (by rw [hcl] at e; obtain rfl := Option.some.inj e; rfl)) (fun k c hk => hK k c (by have := (List.getElem?_eq_some_iff.1 hk).1; omega) hk)]
end Go.Proofs.YthcpjcgjmdfpjaaDoor
