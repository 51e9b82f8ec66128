/- msg.Right. -/
import Derived.Test.YthcpjcgjmdfpjaaDoorRecs
namespace Go.Proofs.YthcpjcgjmdfpjaaDoor
open Go Go.RowKit
set_option maxRecDepth 100000
set_option maxHeartbeats 4000000

theorem take_map {a : List UInt8} {k j : Nat} {u : Value} (h : ((a.take k).map u8v)[j]? = some u) : (a.map u8v)[j]? = some u := by
  rw [List.map_take, List.getElem?_take] at h
  split at h
  · exact h
  · cases h

theorem mright_any (r : Rec) (w0 : World) (hadr : r.addr.length = 16) (hG : Glob w0) (hl1 : r.name.length ≤ 1099511627776) (hl2 : r.text.length ≤ 1099511627776) (hl3 : r.data.length ≤ 1099511627776) :
    Calls Tryd.prog 41 #[r.val] w0 fun e w' => e = .returned (.bool (rightR r)) ∧ Chg (fun _ => False) w0 w' := by
  refine calls_cw (args := [r.val]) Tryd.func41 rfl rfl ?_
  show CW _ _ _ 90 [(0, r.val)] w0
  refine CW.rseq ?_  -- region 0
  refine WL.eff rfl (OP.box (by decide) rfl ?_)
  intro w1 hc1 hs1 hB0
  refine WL.op (by decide) (R.assign rfl) ?_  -- msg.go:68 t2 := (Op.assign c(Value.bool false))
  refine WL.next ?_
  refine CW.seq ?_
  refine CW.rseq ?_  -- region 1
  refine WL.op (by decide) (FA57_0 rfl) ?_  -- msg.go:69 t3 := (Op.fieldAddr 57 t1 0)
  refine WL.op (by decide) (R.load Tryd.underlying9 rfl rfl (cell_at hB0 r.at0)) ?_  -- msg.go:69 t4 := (Op.load 9 t3)
  refine WL.eff rfl (OP.call (by decide) Tryd.func50 (by kernel_rfl) (by kernel_rfl) rfl (names_any r.name w1 hl1) ?_)
  rintro e w2 ⟨rfl, hc2⟩
  refine ⟨_, rfl, ?_⟩
  have hB := hc2.at hB0 (fun h => h)
  have hC := hc1.trans hc2
  have hG2 := (hG.kept hc1 (fun h => h)).kept hc2 (fun h => h)
  cases hn : namesL r.name
  · skip
    refine WL.op (by decide) (R.not rfl) ?_
    refine WL.op (by decide) (R.move rfl) ?_  -- msg.go:69 t7 := (Op.move t6)
    refine WL.pass (by decide) rfl rfl rfl ?_  -- msg.go:69 t8 := (Op.fieldAddr 57 t1 2) [guard 4 false]
    refine WL.pass (by decide) rfl rfl rfl ?_  -- msg.go:69 t9 := (Op.load 3 t8) [guard 4 false]
    refine WL.pass (by decide) rfl rfl rfl ?_  -- msg.go:69 t10 := (Op.binOp BinOp.lss 3 t9 c(Value.int IntKind.i64 0) 3) [guard 4 false]
    refine WL.op (by decide) (R.pickT rfl rfl) ?_  -- msg.go:69 t11 := (Op.pick t7 c(Value.bool true) t10)
    refine WL.op (by decide) (R.move rfl) ?_  -- msg.go:69 t12 := (Op.move t11)
    refine WL.pass (by decide) rfl rfl rfl ?_  -- msg.go:69 t13 := (Op.fieldAddr 57 t1 2) [guard 9 false]
    refine WL.pass (by decide) rfl rfl rfl ?_  -- msg.go:69 t14 := (Op.load 3 t13) [guard 9 false]
    refine WL.pass (by decide) rfl rfl rfl ?_  -- msg.go:69 t15 := (Op.binOp BinOp.gtr 3 t14 c(Value.int IntKind.i64 1048576) 3) [guard 9 false]
    refine WL.op (by decide) (R.pickT rfl rfl) ?_  -- msg.go:69 t16 := (Op.pick t12 c(Value.bool true) t15)
    refine WL.next ?_
    refine CW.condT rfl ?_
    refine CW.rseq ?_  -- region 2
    refine WL.op (by decide) (R.assign rfl) ?_  -- msg.go:70 t2 := (Op.assign c(Value.bool false))
    refine WL.next ?_
    refine CW.ret ?_
    refine EW.thenRet ?_
    refine EW.ret1 (.inl rfl) rfl rfl ⟨?_, hC⟩
    exact congrArg (fun b => Ending.returned (.bool b)) (show _ = rightR r from by unfold rightR; first | (simp [*]; done) | (simp [*]; omega) | (simp [*]; intros; omega))
  · skip
    refine WL.op (by decide) (R.not rfl) ?_
    refine WL.op (by decide) (R.move rfl) ?_  -- msg.go:69 t7 := (Op.move t6)
    refine WL.gop (by decide) rfl rfl rfl (FA57_2 rfl) ?_  -- msg.go:69 t8 := (Op.fieldAddr 57 t1 2) [guard 4 false]
    refine WL.gop (by decide) rfl rfl rfl (R.load Tryd.underlying3 rfl rfl (cell_at hB r.at2)) ?_  -- msg.go:69 t9 := (Op.load 3 t8) [guard 4 false]
    refine WL.gsplit _ (by decide) rfl rfl rfl (R.lssD rfl rfl) (fun h1 => ?_) (fun h1 => ?_)  -- msg.go:69 t10 := (Op.binOp BinOp.lss 3 t9 c(Value.int IntKind.i64 0) 3) [guard 4 false]
    · skip
      refine WL.op (by decide) (R.pickF rfl rfl) ?_  -- msg.go:69 t11 := (Op.pick t7 c(Value.bool true) t10)
      refine WL.op (by decide) (R.move rfl) ?_  -- msg.go:69 t12 := (Op.move t11)
      refine WL.pass (by decide) rfl rfl rfl ?_  -- msg.go:69 t13 := (Op.fieldAddr 57 t1 2) [guard 9 false]
      refine WL.pass (by decide) rfl rfl rfl ?_  -- msg.go:69 t14 := (Op.load 3 t13) [guard 9 false]
      refine WL.pass (by decide) rfl rfl rfl ?_  -- msg.go:69 t15 := (Op.binOp BinOp.gtr 3 t14 c(Value.int IntKind.i64 1048576) 3) [guard 9 false]
      refine WL.op (by decide) (R.pickT rfl rfl) ?_  -- msg.go:69 t16 := (Op.pick t12 c(Value.bool true) t15)
      refine WL.next ?_
      refine CW.condT rfl ?_
      refine CW.rseq ?_  -- region 2
      refine WL.op (by decide) (R.assign rfl) ?_  -- msg.go:70 t2 := (Op.assign c(Value.bool false))
      refine WL.next ?_
      refine CW.ret ?_
      refine EW.thenRet ?_
      refine EW.ret1 (.inl rfl) rfl rfl ⟨?_, hC⟩
      exact congrArg (fun b => Ending.returned (.bool b)) (show _ = rightR r from by unfold rightR; first | (simp [*]; done) | (simp [*]; omega) | (simp [*]; intros; omega))
    · skip
      refine WL.op (by decide) (R.pickF rfl rfl) ?_  -- msg.go:69 t11 := (Op.pick t7 c(Value.bool true) t10)
      refine WL.op (by decide) (R.move rfl) ?_  -- msg.go:69 t12 := (Op.move t11)
      refine WL.gop (by decide) rfl rfl rfl (FA57_2 rfl) ?_  -- msg.go:69 t13 := (Op.fieldAddr 57 t1 2) [guard 9 false]
      refine WL.gop (by decide) rfl rfl rfl (R.load Tryd.underlying3 rfl rfl (cell_at hB r.at2)) ?_  -- msg.go:69 t14 := (Op.load 3 t13) [guard 9 false]
      refine WL.gsplit _ (by decide) rfl rfl rfl (R.gtrD rfl rfl) (fun h2 => ?_) (fun h2 => ?_)  -- msg.go:69 t15 := (Op.binOp BinOp.gtr 3 t14 c(Value.int IntKind.i64 1048576) 3) [guard 9 false]
      · skip
        refine WL.op (by decide) (R.pickF rfl rfl) ?_  -- msg.go:69 t16 := (Op.pick t12 c(Value.bool true) t15)
        refine WL.next ?_
        refine CW.condT rfl ?_
        refine CW.rseq ?_  -- region 2
        refine WL.op (by decide) (R.assign rfl) ?_  -- msg.go:70 t2 := (Op.assign c(Value.bool false))
        refine WL.next ?_
        refine CW.ret ?_
        refine EW.thenRet ?_
        refine EW.ret1 (.inl rfl) rfl rfl ⟨?_, hC⟩
        exact congrArg (fun b => Ending.returned (.bool b)) (show _ = rightR r from by unfold rightR; first | (simp [*]; done) | (simp [*]; omega) | (simp [*]; intros; omega))
      · skip
        refine WL.op (by decide) (R.pickF rfl rfl) ?_  -- msg.go:69 t16 := (Op.pick t12 c(Value.bool true) t15)
        refine WL.next ?_
        refine CW.condF rfl ?_
        refine CW.skip ?_
        refine EW.next ?_
        refine CW.seq ?_
        refine CW.rseq ?_  -- region 3
        refine WL.op (by decide) (FA57_1 rfl) ?_  -- msg.go:72 t17 := (Op.fieldAddr 57 t1 1)
        refine WL.op (by decide) (R.load Tryd.underlying3 rfl rfl (cell_at hB r.at1)) ?_  -- msg.go:72 t18 := (Op.load 3 t17)
        refine WL.next ?_
        refine CW.block ?_
        refine CW.rseq ?_  -- region 4
        refine WL.eqlS (by decide) rfl rfl (fun h3 => ?_) (fun h3 => ?_)  -- msg.go:73 t20 := (Op.binOp BinOp.eql 3 t18 c(Value.int IntKind.i64 1) 3)
        · skip
          refine WL.op (by decide) (R.assign rfl) ?_  -- msg.go:73 t19 := (Op.assign t20)
          refine WL.next ?_
          refine CW.condT rfl ?_
          refine CW.seq ?_
          rcases four (p := r.text = []) (q := r.data = []) (s := r.addr.take 12 = mappedL) with h1 | ⟨h1, h2⟩ | ⟨h1, h2, h3⟩ | ⟨h1, h2, h3⟩
          · skip
            refine CW.draw (fun w => w.heap[w0.heap.size]? = some (.cells r.cells.toArray 57 (0, 0)) ∧ Glob w) (by kernel_rfl) ?_
            refine AH.take 0 rfl (by kernel_rfl) (by kernel_rfl) (by kernel_rfl) (fun _ _ _ _ h => h) ⟨hB, hG2⟩ (by decide) (fun w hS => FA57_4 rfl) ?_  -- msg.go:74 t21 := (Op.fieldAddr 57 t1 4)
            refine AH.take 1 rfl (by kernel_rfl) (by kernel_rfl) (by kernel_rfl) (fun _ _ _ _ h => h) ⟨hB, hG2⟩ (by decide) (fun w hS => R.load Tryd.underlying9 rfl rfl (cell_at hS.1 (Rec.at19 hadr))) ?_  -- msg.go:74 t22 := (Op.load 9 t21)
            refine AH.take 2 rfl (by kernel_rfl) (by kernel_rfl) (by kernel_rfl) (fun _ _ _ _ h => h) ⟨hB, hG2⟩ (by decide) (fun w hS => R.eqlStrC (b := []) rfl rfl (decide_eq_false h1)) ?_  -- msg.go:74 t23 := (Op.binOp BinOp.eql 9 t22 c(Value.string (ByteArray.mk [])) 9)
            refine AH.take 3 rfl (by kernel_rfl) (by kernel_rfl) (by kernel_rfl) (fun _ _ _ _ h => h) ⟨hB, hG2⟩ (by decide) (fun w hS => R.move rfl) ?_  -- msg.go:74 t24 := (Op.move t23)
            refine AH.pass 4 rfl (by kernel_rfl) (by kernel_rfl) (by kernel_rfl) (fun _ _ _ _ h => h) ⟨hB, hG2⟩ (by decide) rfl rfl rfl ?_  -- msg.go:74 t25 := (Op.fieldAddr 57 t1 5) [guard 3 true]
            refine AH.pass 5 rfl (by kernel_rfl) (by kernel_rfl) (by kernel_rfl) (fun _ _ _ _ h => h) ⟨hB, hG2⟩ (by decide) rfl rfl rfl ?_  -- msg.go:74 t26 := (Op.load 9 t25) [guard 3 true]
            refine AH.pass 6 rfl (by kernel_rfl) (by kernel_rfl) (by kernel_rfl) (fun _ _ _ _ h => h) ⟨hB, hG2⟩ (by decide) rfl rfl rfl ?_  -- msg.go:74 t27 := (Op.binOp BinOp.eql 9 t26 c(Value.string (ByteArray.mk [])) 9) [guard 3 true]
            refine AH.take 7 rfl (by kernel_rfl) (by kernel_rfl) (by kernel_rfl) (fun _ _ _ _ h => h) ⟨hB, hG2⟩ (by decide) (fun w hS => R.pickF rfl rfl) ?_  -- msg.go:74 t28 := (Op.pick t24 t27 c(Value.bool false))
            refine AH.take 8 rfl (by kernel_rfl) (by kernel_rfl) (by kernel_rfl) (fun _ _ _ _ h => h) ⟨hB, hG2⟩ (by decide) (fun w hS => R.move rfl) ?_  -- msg.go:74 t29 := (Op.move t28)
            refine AH.pass 9 rfl (by kernel_rfl) (by kernel_rfl) (by kernel_rfl) (fun _ _ _ _ h => h) ⟨hB, hG2⟩ (by decide) rfl rfl rfl ?_  -- msg.go:74 t30 := (Op.fieldAddr 57 t1 3) [guard 8 true]
            refine AH.pass 10 rfl (by kernel_rfl) (by kernel_rfl) (by kernel_rfl) (fun _ _ _ _ h => h) ⟨hB, hG2⟩ (by decide) rfl rfl rfl ?_  -- msg.go:74 t31 := (Op.slice 27 t30 none (some c(Value.int IntKind.i64 12)) none) [guard 8 true]
            refine AH.pass 11 rfl (by kernel_rfl) (by kernel_rfl) (by kernel_rfl) (fun _ _ _ _ h => h) ⟨hB, hG2⟩ (by decide) rfl rfl rfl ?_  -- msg.go:74 t32 := (Op.sliceToArrayPointer 108 t31) [guard 8 true]
            refine AH.pass 12 rfl (by kernel_rfl) (by kernel_rfl) (by kernel_rfl) (fun _ _ _ _ h => h) ⟨hB, hG2⟩ (by decide) rfl rfl rfl ?_  -- msg.go:74 t33 := (Op.load 108 t32) [guard 8 true]
            refine AH.pass 13 rfl (by kernel_rfl) (by kernel_rfl) (by kernel_rfl) (fun _ _ _ _ h => h) ⟨hB, hG2⟩ (by decide) rfl rfl rfl ?_  -- msg.go:74 t34 := (Op.load 108 (Operand.global 0)) [guard 8 true]
            refine AH.pass 14 rfl (by kernel_rfl) (by kernel_rfl) (by kernel_rfl) (fun _ _ _ _ h => h) ⟨hB, hG2⟩ (by decide) rfl rfl rfl ?_  -- msg.go:74 t35 := (Op.binOp BinOp.eql 108 t33 t34 108) [guard 8 true]
            refine AH.take 15 rfl (by kernel_rfl) (by kernel_rfl) (by kernel_rfl) (fun _ _ _ _ h => h) ⟨hB, hG2⟩ (by decide) (fun w hS => R.pickF rfl rfl) ?_  -- msg.go:74 t36 := (Op.pick t29 t35 c(Value.bool false))
            refine AH.take 16 rfl (by kernel_rfl) (by kernel_rfl) (by kernel_rfl) (fun _ _ _ _ h => h) ⟨hB, hG2⟩ (by decide) (fun w hS => R.assign rfl) ?_  -- msg.go:74 t2 := (Op.assign t36)
            refine AH.done (by kernel_rfl) ?_
            refine EW.next ?_
            refine CW.ret ?_
            refine EW.inRet ?_
            refine EW.thenRet ?_
            refine EW.ret1 (.inl rfl) rfl rfl ⟨?_, (hC.trans (Chg.drew _ _))⟩
            exact congrArg (fun b => Ending.returned (.bool b)) (show _ = rightR r from by unfold rightR; first | (simp [*]; done) | (simp [*]; omega) | (simp [*]; intros; omega))
          · skip
            refine CW.draw (fun w => w.heap[w0.heap.size]? = some (.cells r.cells.toArray 57 (0, 0)) ∧ Glob w) (by kernel_rfl) ?_
            refine AH.take 0 rfl (by kernel_rfl) (by kernel_rfl) (by kernel_rfl) (fun _ _ _ _ h => h) ⟨hB, hG2⟩ (by decide) (fun w hS => FA57_4 rfl) ?_  -- msg.go:74 t21 := (Op.fieldAddr 57 t1 4)
            refine AH.take 1 rfl (by kernel_rfl) (by kernel_rfl) (by kernel_rfl) (fun _ _ _ _ h => h) ⟨hB, hG2⟩ (by decide) (fun w hS => R.load Tryd.underlying9 rfl rfl (cell_at hS.1 (Rec.at19 hadr))) ?_  -- msg.go:74 t22 := (Op.load 9 t21)
            refine AH.take 2 rfl (by kernel_rfl) (by kernel_rfl) (by kernel_rfl) (fun _ _ _ _ h => h) ⟨hB, hG2⟩ (by decide) (fun w hS => R.eqlStrC (b := []) rfl rfl (decide_eq_true h1)) ?_  -- msg.go:74 t23 := (Op.binOp BinOp.eql 9 t22 c(Value.string (ByteArray.mk [])) 9)
            refine AH.take 3 rfl (by kernel_rfl) (by kernel_rfl) (by kernel_rfl) (fun _ _ _ _ h => h) ⟨hB, hG2⟩ (by decide) (fun w hS => R.move rfl) ?_  -- msg.go:74 t24 := (Op.move t23)
            refine AH.takeG 4 rfl (by kernel_rfl) (by kernel_rfl) (by kernel_rfl) (fun _ _ _ _ h => h) ⟨hB, hG2⟩ (by decide) rfl rfl rfl (fun w hS => FA57_5 rfl) ?_  -- msg.go:74 t25 := (Op.fieldAddr 57 t1 5) [guard 3 true]
            refine AH.takeG 5 rfl (by kernel_rfl) (by kernel_rfl) (by kernel_rfl) (fun _ _ _ _ h => h) ⟨hB, hG2⟩ (by decide) rfl rfl rfl (fun w hS => R.load Tryd.underlying9 rfl rfl (cell_at hS.1 (Rec.at20 hadr))) ?_  -- msg.go:74 t26 := (Op.load 9 t25) [guard 3 true]
            refine AH.takeG 6 rfl (by kernel_rfl) (by kernel_rfl) (by kernel_rfl) (fun _ _ _ _ h => h) ⟨hB, hG2⟩ (by decide) rfl rfl rfl (fun w hS => R.eqlStrC (b := []) rfl rfl (decide_eq_false h2)) ?_  -- msg.go:74 t27 := (Op.binOp BinOp.eql 9 t26 c(Value.string (ByteArray.mk [])) 9) [guard 3 true]
            refine AH.take 7 rfl (by kernel_rfl) (by kernel_rfl) (by kernel_rfl) (fun _ _ _ _ h => h) ⟨hB, hG2⟩ (by decide) (fun w hS => R.pickT rfl rfl) ?_  -- msg.go:74 t28 := (Op.pick t24 t27 c(Value.bool false))
            refine AH.take 8 rfl (by kernel_rfl) (by kernel_rfl) (by kernel_rfl) (fun _ _ _ _ h => h) ⟨hB, hG2⟩ (by decide) (fun w hS => R.move rfl) ?_  -- msg.go:74 t29 := (Op.move t28)
            refine AH.pass 9 rfl (by kernel_rfl) (by kernel_rfl) (by kernel_rfl) (fun _ _ _ _ h => h) ⟨hB, hG2⟩ (by decide) rfl rfl rfl ?_  -- msg.go:74 t30 := (Op.fieldAddr 57 t1 3) [guard 8 true]
            refine AH.pass 10 rfl (by kernel_rfl) (by kernel_rfl) (by kernel_rfl) (fun _ _ _ _ h => h) ⟨hB, hG2⟩ (by decide) rfl rfl rfl ?_  -- msg.go:74 t31 := (Op.slice 27 t30 none (some c(Value.int IntKind.i64 12)) none) [guard 8 true]
            refine AH.pass 11 rfl (by kernel_rfl) (by kernel_rfl) (by kernel_rfl) (fun _ _ _ _ h => h) ⟨hB, hG2⟩ (by decide) rfl rfl rfl ?_  -- msg.go:74 t32 := (Op.sliceToArrayPointer 108 t31) [guard 8 true]
            refine AH.pass 12 rfl (by kernel_rfl) (by kernel_rfl) (by kernel_rfl) (fun _ _ _ _ h => h) ⟨hB, hG2⟩ (by decide) rfl rfl rfl ?_  -- msg.go:74 t33 := (Op.load 108 t32) [guard 8 true]
            refine AH.pass 13 rfl (by kernel_rfl) (by kernel_rfl) (by kernel_rfl) (fun _ _ _ _ h => h) ⟨hB, hG2⟩ (by decide) rfl rfl rfl ?_  -- msg.go:74 t34 := (Op.load 108 (Operand.global 0)) [guard 8 true]
            refine AH.pass 14 rfl (by kernel_rfl) (by kernel_rfl) (by kernel_rfl) (fun _ _ _ _ h => h) ⟨hB, hG2⟩ (by decide) rfl rfl rfl ?_  -- msg.go:74 t35 := (Op.binOp BinOp.eql 108 t33 t34 108) [guard 8 true]
            refine AH.take 15 rfl (by kernel_rfl) (by kernel_rfl) (by kernel_rfl) (fun _ _ _ _ h => h) ⟨hB, hG2⟩ (by decide) (fun w hS => R.pickF rfl rfl) ?_  -- msg.go:74 t36 := (Op.pick t29 t35 c(Value.bool false))
            refine AH.take 16 rfl (by kernel_rfl) (by kernel_rfl) (by kernel_rfl) (fun _ _ _ _ h => h) ⟨hB, hG2⟩ (by decide) (fun w hS => R.assign rfl) ?_  -- msg.go:74 t2 := (Op.assign t36)
            refine AH.done (by kernel_rfl) ?_
            refine EW.next ?_
            refine CW.ret ?_
            refine EW.inRet ?_
            refine EW.thenRet ?_
            refine EW.ret1 (.inl rfl) rfl rfl ⟨?_, (hC.trans (Chg.drew _ _))⟩
            exact congrArg (fun b => Ending.returned (.bool b)) (show _ = rightR r from by unfold rightR; first | (simp [*]; done) | (simp [*]; omega) | (simp [*]; intros; omega))
          · skip
            refine CW.draw (fun w => w.heap[w0.heap.size]? = some (.cells r.cells.toArray 57 (0, 0)) ∧ Glob w) (by kernel_rfl) ?_
            refine AH.take 0 rfl (by kernel_rfl) (by kernel_rfl) (by kernel_rfl) (fun _ _ _ _ h => h) ⟨hB, hG2⟩ (by decide) (fun w hS => FA57_4 rfl) ?_  -- msg.go:74 t21 := (Op.fieldAddr 57 t1 4)
            refine AH.take 1 rfl (by kernel_rfl) (by kernel_rfl) (by kernel_rfl) (fun _ _ _ _ h => h) ⟨hB, hG2⟩ (by decide) (fun w hS => R.load Tryd.underlying9 rfl rfl (cell_at hS.1 (Rec.at19 hadr))) ?_  -- msg.go:74 t22 := (Op.load 9 t21)
            refine AH.take 2 rfl (by kernel_rfl) (by kernel_rfl) (by kernel_rfl) (fun _ _ _ _ h => h) ⟨hB, hG2⟩ (by decide) (fun w hS => R.eqlStrC (b := []) rfl rfl (decide_eq_true h1)) ?_  -- msg.go:74 t23 := (Op.binOp BinOp.eql 9 t22 c(Value.string (ByteArray.mk [])) 9)
            refine AH.take 3 rfl (by kernel_rfl) (by kernel_rfl) (by kernel_rfl) (fun _ _ _ _ h => h) ⟨hB, hG2⟩ (by decide) (fun w hS => R.move rfl) ?_  -- msg.go:74 t24 := (Op.move t23)
            refine AH.takeG 4 rfl (by kernel_rfl) (by kernel_rfl) (by kernel_rfl) (fun _ _ _ _ h => h) ⟨hB, hG2⟩ (by decide) rfl rfl rfl (fun w hS => FA57_5 rfl) ?_  -- msg.go:74 t25 := (Op.fieldAddr 57 t1 5) [guard 3 true]
            refine AH.takeG 5 rfl (by kernel_rfl) (by kernel_rfl) (by kernel_rfl) (fun _ _ _ _ h => h) ⟨hB, hG2⟩ (by decide) rfl rfl rfl (fun w hS => R.load Tryd.underlying9 rfl rfl (cell_at hS.1 (Rec.at20 hadr))) ?_  -- msg.go:74 t26 := (Op.load 9 t25) [guard 3 true]
            refine AH.takeG 6 rfl (by kernel_rfl) (by kernel_rfl) (by kernel_rfl) (fun _ _ _ _ h => h) ⟨hB, hG2⟩ (by decide) rfl rfl rfl (fun w hS => R.eqlStrC (b := []) rfl rfl (decide_eq_true h2)) ?_  -- msg.go:74 t27 := (Op.binOp BinOp.eql 9 t26 c(Value.string (ByteArray.mk [])) 9) [guard 3 true]
            refine AH.take 7 rfl (by kernel_rfl) (by kernel_rfl) (by kernel_rfl) (fun _ _ _ _ h => h) ⟨hB, hG2⟩ (by decide) (fun w hS => R.pickT rfl rfl) ?_  -- msg.go:74 t28 := (Op.pick t24 t27 c(Value.bool false))
            refine AH.take 8 rfl (by kernel_rfl) (by kernel_rfl) (by kernel_rfl) (fun _ _ _ _ h => h) ⟨hB, hG2⟩ (by decide) (fun w hS => R.move rfl) ?_  -- msg.go:74 t29 := (Op.move t28)
            refine AH.takeG 9 rfl (by kernel_rfl) (by kernel_rfl) (by kernel_rfl) (fun _ _ _ _ h => h) ⟨hB, hG2⟩ (by decide) rfl rfl rfl (fun w hS => FA57_3 rfl) ?_  -- msg.go:74 t30 := (Op.fieldAddr 57 t1 3) [guard 8 true]
            refine AH.takeG 10 rfl (by kernel_rfl) (by kernel_rfl) (by kernel_rfl) (fun _ _ _ _ h => h) ⟨hB, hG2⟩ (by decide) rfl rfl rfl (fun w hS => R.sliceArr (lv := none) (hv := some (.int .i64 12)) (l1 := 0) (h1 := 12) Tryd.underlying27 sz5 rfl rfl rfl (by kernel_rfl) (by decide)) ?_  -- msg.go:74 t31 := (Op.slice 27 t30 none (some c(Value.int IntKind.i64 12)) none) [guard 8 true]
            refine AH.takeG 11 rfl (by kernel_rfl) (by kernel_rfl) (by kernel_rfl) (fun _ _ _ _ h => h) ⟨hB, hG2⟩ (by decide) rfl rfl rfl (fun w hS => R.toArr Tryd.underlying108 rfl (by decide)) ?_  -- msg.go:74 t32 := (Op.sliceToArrayPointer 108 t31) [guard 8 true]
            refine AH.takeG 12 rfl (by kernel_rfl) (by kernel_rfl) (by kernel_rfl) (fun _ _ _ _ h => h) ⟨hB, hG2⟩ (by decide) rfl rfl rfl (fun w hS => R.loadAgg1 (cs := (r.addr.take 12).map u8v) Tryd.underlying108 rfl (by rw [List.length_map, List.length_take, hadr]; exact sz108) rfl (fun j u hj => cell_at hS.1 (by rw [Nat.zero_add, Nat.add_zero]; exact Rec.atAddr (take_map hj)))) ?_  -- msg.go:74 t33 := (Op.load 108 t32) [guard 8 true]
            refine AH.takeG 13 rfl (by kernel_rfl) (by kernel_rfl) (by kernel_rfl) (fun _ _ _ _ h => h) ⟨hB, hG2⟩ (by decide) rfl rfl rfl (fun w hS => R.loadAgg1 (cs := mappedL.map u8v) Tryd.underlying108 rfl sz108 rfl (fun j u hj => by rw [Nat.zero_add]; exact hS.2 j u hj)) ?_  -- msg.go:74 t34 := (Op.load 108 (Operand.global 0)) [guard 8 true]
            refine AH.takeG 14 rfl (by kernel_rfl) (by kernel_rfl) (by kernel_rfl) (fun _ _ _ _ h => h) ⟨hB, hG2⟩ (by decide) rfl rfl rfl (fun w hS => R.eql108 (by rw [List.length_take, hadr]; rfl) rfl rfl rfl (decide_eq_false h3)) ?_  -- msg.go:74 t35 := (Op.binOp BinOp.eql 108 t33 t34 108) [guard 8 true]
            refine AH.take 15 rfl (by kernel_rfl) (by kernel_rfl) (by kernel_rfl) (fun _ _ _ _ h => h) ⟨hB, hG2⟩ (by decide) (fun w hS => R.pickT rfl rfl) ?_  -- msg.go:74 t36 := (Op.pick t29 t35 c(Value.bool false))
            refine AH.take 16 rfl (by kernel_rfl) (by kernel_rfl) (by kernel_rfl) (fun _ _ _ _ h => h) ⟨hB, hG2⟩ (by decide) (fun w hS => R.assign rfl) ?_  -- msg.go:74 t2 := (Op.assign t36)
            refine AH.done (by kernel_rfl) ?_
            refine EW.next ?_
            refine CW.ret ?_
            refine EW.inRet ?_
            refine EW.thenRet ?_
            refine EW.ret1 (.inl rfl) rfl rfl ⟨?_, (hC.trans (Chg.drew _ _))⟩
            exact congrArg (fun b => Ending.returned (.bool b)) (show _ = rightR r from by unfold rightR; first | (simp [*]; done) | (simp [*]; omega) | (simp [*]; intros; omega))
          · skip
            refine CW.draw (fun w => w.heap[w0.heap.size]? = some (.cells r.cells.toArray 57 (0, 0)) ∧ Glob w) (by kernel_rfl) ?_
            refine AH.take 0 rfl (by kernel_rfl) (by kernel_rfl) (by kernel_rfl) (fun _ _ _ _ h => h) ⟨hB, hG2⟩ (by decide) (fun w hS => FA57_4 rfl) ?_  -- msg.go:74 t21 := (Op.fieldAddr 57 t1 4)
            refine AH.take 1 rfl (by kernel_rfl) (by kernel_rfl) (by kernel_rfl) (fun _ _ _ _ h => h) ⟨hB, hG2⟩ (by decide) (fun w hS => R.load Tryd.underlying9 rfl rfl (cell_at hS.1 (Rec.at19 hadr))) ?_  -- msg.go:74 t22 := (Op.load 9 t21)
            refine AH.take 2 rfl (by kernel_rfl) (by kernel_rfl) (by kernel_rfl) (fun _ _ _ _ h => h) ⟨hB, hG2⟩ (by decide) (fun w hS => R.eqlStrC (b := []) rfl rfl (decide_eq_true h1)) ?_  -- msg.go:74 t23 := (Op.binOp BinOp.eql 9 t22 c(Value.string (ByteArray.mk [])) 9)
            refine AH.take 3 rfl (by kernel_rfl) (by kernel_rfl) (by kernel_rfl) (fun _ _ _ _ h => h) ⟨hB, hG2⟩ (by decide) (fun w hS => R.move rfl) ?_  -- msg.go:74 t24 := (Op.move t23)
            refine AH.takeG 4 rfl (by kernel_rfl) (by kernel_rfl) (by kernel_rfl) (fun _ _ _ _ h => h) ⟨hB, hG2⟩ (by decide) rfl rfl rfl (fun w hS => FA57_5 rfl) ?_  -- msg.go:74 t25 := (Op.fieldAddr 57 t1 5) [guard 3 true]
            refine AH.takeG 5 rfl (by kernel_rfl) (by kernel_rfl) (by kernel_rfl) (fun _ _ _ _ h => h) ⟨hB, hG2⟩ (by decide) rfl rfl rfl (fun w hS => R.load Tryd.underlying9 rfl rfl (cell_at hS.1 (Rec.at20 hadr))) ?_  -- msg.go:74 t26 := (Op.load 9 t25) [guard 3 true]
            refine AH.takeG 6 rfl (by kernel_rfl) (by kernel_rfl) (by kernel_rfl) (fun _ _ _ _ h => h) ⟨hB, hG2⟩ (by decide) rfl rfl rfl (fun w hS => R.eqlStrC (b := []) rfl rfl (decide_eq_true h2)) ?_  -- msg.go:74 t27 := (Op.binOp BinOp.eql 9 t26 c(Value.string (ByteArray.mk [])) 9) [guard 3 true]
            refine AH.take 7 rfl (by kernel_rfl) (by kernel_rfl) (by kernel_rfl) (fun _ _ _ _ h => h) ⟨hB, hG2⟩ (by decide) (fun w hS => R.pickT rfl rfl) ?_  -- msg.go:74 t28 := (Op.pick t24 t27 c(Value.bool false))
            refine AH.take 8 rfl (by kernel_rfl) (by kernel_rfl) (by kernel_rfl) (fun _ _ _ _ h => h) ⟨hB, hG2⟩ (by decide) (fun w hS => R.move rfl) ?_  -- msg.go:74 t29 := (Op.move t28)
            refine AH.takeG 9 rfl (by kernel_rfl) (by kernel_rfl) (by kernel_rfl) (fun _ _ _ _ h => h) ⟨hB, hG2⟩ (by decide) rfl rfl rfl (fun w hS => FA57_3 rfl) ?_  -- msg.go:74 t30 := (Op.fieldAddr 57 t1 3) [guard 8 true]
            refine AH.takeG 10 rfl (by kernel_rfl) (by kernel_rfl) (by kernel_rfl) (fun _ _ _ _ h => h) ⟨hB, hG2⟩ (by decide) rfl rfl rfl (fun w hS => R.sliceArr (lv := none) (hv := some (.int .i64 12)) (l1 := 0) (h1 := 12) Tryd.underlying27 sz5 rfl rfl rfl (by kernel_rfl) (by decide)) ?_  -- msg.go:74 t31 := (Op.slice 27 t30 none (some c(Value.int IntKind.i64 12)) none) [guard 8 true]
            refine AH.takeG 11 rfl (by kernel_rfl) (by kernel_rfl) (by kernel_rfl) (fun _ _ _ _ h => h) ⟨hB, hG2⟩ (by decide) rfl rfl rfl (fun w hS => R.toArr Tryd.underlying108 rfl (by decide)) ?_  -- msg.go:74 t32 := (Op.sliceToArrayPointer 108 t31) [guard 8 true]
            refine AH.takeG 12 rfl (by kernel_rfl) (by kernel_rfl) (by kernel_rfl) (fun _ _ _ _ h => h) ⟨hB, hG2⟩ (by decide) rfl rfl rfl (fun w hS => R.loadAgg1 (cs := (r.addr.take 12).map u8v) Tryd.underlying108 rfl (by rw [List.length_map, List.length_take, hadr]; exact sz108) rfl (fun j u hj => cell_at hS.1 (by rw [Nat.zero_add, Nat.add_zero]; exact Rec.atAddr (take_map hj)))) ?_  -- msg.go:74 t33 := (Op.load 108 t32) [guard 8 true]
            refine AH.takeG 13 rfl (by kernel_rfl) (by kernel_rfl) (by kernel_rfl) (fun _ _ _ _ h => h) ⟨hB, hG2⟩ (by decide) rfl rfl rfl (fun w hS => R.loadAgg1 (cs := mappedL.map u8v) Tryd.underlying108 rfl sz108 rfl (fun j u hj => by rw [Nat.zero_add]; exact hS.2 j u hj)) ?_  -- msg.go:74 t34 := (Op.load 108 (Operand.global 0)) [guard 8 true]
            refine AH.takeG 14 rfl (by kernel_rfl) (by kernel_rfl) (by kernel_rfl) (fun _ _ _ _ h => h) ⟨hB, hG2⟩ (by decide) rfl rfl rfl (fun w hS => R.eql108 (by rw [List.length_take, hadr]; rfl) rfl rfl rfl (decide_eq_true h3)) ?_  -- msg.go:74 t35 := (Op.binOp BinOp.eql 108 t33 t34 108) [guard 8 true]
            refine AH.take 15 rfl (by kernel_rfl) (by kernel_rfl) (by kernel_rfl) (fun _ _ _ _ h => h) ⟨hB, hG2⟩ (by decide) (fun w hS => R.pickT rfl rfl) ?_  -- msg.go:74 t36 := (Op.pick t29 t35 c(Value.bool false))
            refine AH.take 16 rfl (by kernel_rfl) (by kernel_rfl) (by kernel_rfl) (fun _ _ _ _ h => h) ⟨hB, hG2⟩ (by decide) (fun w hS => R.assign rfl) ?_  -- msg.go:74 t2 := (Op.assign t36)
            refine AH.done (by kernel_rfl) ?_
            refine EW.next ?_
            refine CW.ret ?_
            refine EW.inRet ?_
            refine EW.thenRet ?_
            refine EW.ret1 (.inl rfl) rfl rfl ⟨?_, (hC.trans (Chg.drew _ _))⟩
            exact congrArg (fun b => Ending.returned (.bool b)) (show _ = rightR r from by unfold rightR; first | (simp [*]; done) | (simp [*]; omega) | (simp [*]; intros; omega))
        · skip
          refine WL.op (by decide) (R.assign rfl) ?_  -- msg.go:73 t19 := (Op.assign t20)
          refine WL.next ?_
          refine CW.condF rfl ?_
          refine CW.rseq ?_  -- region 6
          refine WL.eqlS (by decide) rfl rfl (fun h4 => ?_) (fun h4 => ?_)  -- msg.go:75 t38 := (Op.binOp BinOp.eql 3 t18 c(Value.int IntKind.i64 28) 3)
          · skip
            refine WL.op (by decide) (R.assign rfl) ?_  -- msg.go:75 t37 := (Op.assign t38)
            refine WL.next ?_
            refine CW.condT rfl ?_
            refine CW.rseq ?_  -- region 7
            refine WL.op (by decide) (FA57_4 rfl) ?_  -- msg.go:76 t39 := (Op.fieldAddr 57 t1 4)
            refine WL.op (by decide) (R.load Tryd.underlying9 rfl rfl (cell_at hB (Rec.at19 hadr))) ?_  -- msg.go:76 t40 := (Op.load 9 t39)
            refine WL.split _ (by decide) (R.eqlStr rfl rfl) (fun h5 => ?_) (fun h5 => ?_)  -- msg.go:76 t41 := (Op.binOp BinOp.eql 9 t40 c(Value.string (ByteArray.mk [])) 9)
            · skip
              refine WL.op (by decide) (R.move rfl) ?_  -- msg.go:76 t42 := (Op.move t41)
              refine WL.gop (by decide) rfl rfl rfl (FA57_5 rfl) ?_  -- msg.go:76 t43 := (Op.fieldAddr 57 t1 5) [guard 3 true]
              refine WL.gop (by decide) rfl rfl rfl (R.load Tryd.underlying9 rfl rfl (cell_at hB (Rec.at20 hadr))) ?_  -- msg.go:76 t44 := (Op.load 9 t43) [guard 3 true]
              refine WL.gsplit _ (by decide) rfl rfl rfl (R.eqlStr rfl rfl) (fun h6 => ?_) (fun h6 => ?_)  -- msg.go:76 t45 := (Op.binOp BinOp.eql 9 t44 c(Value.string (ByteArray.mk [])) 9) [guard 3 true]
              · skip
                refine WL.op (by decide) (R.pickT rfl rfl) ?_  -- msg.go:76 t46 := (Op.pick t42 t45 c(Value.bool false))
                refine WL.op (by decide) (R.assign rfl) ?_  -- msg.go:76 t2 := (Op.assign t46)
                refine WL.next ?_
                refine CW.ret ?_
                refine EW.inRet ?_
                refine EW.thenRet ?_
                refine EW.ret1 (.inl rfl) rfl rfl ⟨?_, hC⟩
                exact congrArg (fun b => Ending.returned (.bool b)) (show _ = rightR r from by unfold rightR; first | (simp [*]; done) | (simp [*]; omega) | (simp [*]; intros; omega))
              · skip
                refine WL.op (by decide) (R.pickT rfl rfl) ?_  -- msg.go:76 t46 := (Op.pick t42 t45 c(Value.bool false))
                refine WL.op (by decide) (R.assign rfl) ?_  -- msg.go:76 t2 := (Op.assign t46)
                refine WL.next ?_
                refine CW.ret ?_
                refine EW.inRet ?_
                refine EW.thenRet ?_
                refine EW.ret1 (.inl rfl) rfl rfl ⟨?_, hC⟩
                exact congrArg (fun b => Ending.returned (.bool b)) (show _ = rightR r from by unfold rightR; first | (simp [*]; done) | (simp [*]; omega) | (simp [*]; intros; omega))
            · skip
              refine WL.op (by decide) (R.move rfl) ?_  -- msg.go:76 t42 := (Op.move t41)
              refine WL.pass (by decide) rfl rfl rfl ?_  -- msg.go:76 t43 := (Op.fieldAddr 57 t1 5) [guard 3 true]
              refine WL.pass (by decide) rfl rfl rfl ?_  -- msg.go:76 t44 := (Op.load 9 t43) [guard 3 true]
              refine WL.pass (by decide) rfl rfl rfl ?_  -- msg.go:76 t45 := (Op.binOp BinOp.eql 9 t44 c(Value.string (ByteArray.mk [])) 9) [guard 3 true]
              refine WL.op (by decide) (R.pickF rfl rfl) ?_  -- msg.go:76 t46 := (Op.pick t42 t45 c(Value.bool false))
              refine WL.op (by decide) (R.assign rfl) ?_  -- msg.go:76 t2 := (Op.assign t46)
              refine WL.next ?_
              refine CW.ret ?_
              refine EW.inRet ?_
              refine EW.thenRet ?_
              refine EW.ret1 (.inl rfl) rfl rfl ⟨?_, hC⟩
              exact congrArg (fun b => Ending.returned (.bool b)) (show _ = rightR r from by unfold rightR; first | (simp [*]; done) | (simp [*]; omega) | (simp [*]; intros; omega))
          · skip
            refine WL.op (by decide) (R.assign rfl) ?_  -- msg.go:75 t37 := (Op.assign t38)
            refine WL.next ?_
            refine CW.condF rfl ?_
            refine CW.seq ?_
            refine CW.rseq ?_  -- region 8
            refine WL.eqlS (by decide) rfl rfl (fun h7 => ?_) (fun h7 => ?_)  -- msg.go:77 t48 := (Op.binOp BinOp.eql 3 t18 c(Value.int IntKind.i64 2) 3)
            · skip
              refine WL.op (by decide) (R.assign rfl) ?_  -- msg.go:77 t47 := (Op.assign t48)
              refine WL.next ?_
              refine CW.condT rfl ?_
              refine CW.skip ?_
              refine EW.next ?_
              refine CW.condT rfl ?_
              refine CW.rseq ?_  -- region 11
              refine WL.op (by decide) (FA57_5 rfl) ?_  -- msg.go:78 t51 := (Op.fieldAddr 57 t1 5)
              refine WL.op (by decide) (R.load Tryd.underlying9 rfl rfl (cell_at hB (Rec.at20 hadr))) ?_  -- msg.go:78 t52 := (Op.load 9 t51)
              refine WL.split _ (by decide) (R.eqlStr rfl rfl) (fun h8 => ?_) (fun h8 => ?_)  -- msg.go:78 t53 := (Op.binOp BinOp.eql 9 t52 c(Value.string (ByteArray.mk [])) 9)
              · skip
                refine WL.op (by decide) (R.move rfl) ?_  -- msg.go:78 t54 := (Op.move t53)
                refine WL.gop (by decide) rfl rfl rfl (FA57_3 rfl) ?_  -- msg.go:78 t55 := (Op.fieldAddr 57 t1 3) [guard 3 true]
                refine WL.gop (by decide) rfl rfl rfl (R.loadAgg1 (cs := r.addr.map u8v) Tryd.underlying27 rfl (by rw [List.length_map, hadr]; exact sz27) rfl (fun j u hj => cell_at hB (by rw [Nat.zero_add]; exact Rec.atAddr hj))) ?_  -- msg.go:78 t56 := (Op.load 27 t55) [guard 3 true]
                refine WL.gop (by decide) rfl rfl rfl (R.build27) ?_  -- msg.go:78 t57 := (Op.build 27 []) [guard 3 true]
                by_cases h9 : r.addr = zero16
                · skip
                  refine WL.gop (by decide) rfl rfl rfl (R.eql27 hadr rfl rfl rfl (decide_eq_true h9)) ?_
                  refine WL.op (by decide) (R.pickT rfl rfl) ?_  -- msg.go:78 t59 := (Op.pick t54 t58 c(Value.bool false))
                  refine WL.op (by decide) (R.move rfl) ?_  -- msg.go:78 t60 := (Op.move t59)
                  refine WL.gop (by decide) rfl rfl rfl (FA57_4 rfl) ?_  -- msg.go:78 t61 := (Op.fieldAddr 57 t1 4) [guard 9 true]
                  refine WL.gop (by decide) rfl rfl rfl (R.load Tryd.underlying9 rfl rfl (cell_at hB (Rec.at19 hadr))) ?_  -- msg.go:78 t62 := (Op.load 9 t61) [guard 9 true]
                  refine WL.geff rfl rfl rfl (OP.call (by decide) Tryd.func50 (by kernel_rfl) (by kernel_rfl) rfl (names_any r.text w2 hl2) ?_)
                  rintro e w3 ⟨rfl, hc3⟩
                  refine ⟨_, rfl, ?_⟩
                  have hC2 := hC.trans hc3
                  cases ht : namesL r.text
                  · skip
                    refine WL.op (by decide) (R.pickT rfl rfl) ?_
                    refine WL.op (by decide) (R.assign rfl) ?_  -- msg.go:78 t2 := (Op.assign t64)
                    refine WL.next ?_
                    refine CW.ret ?_
                    refine EW.inRet ?_
                    refine EW.thenRet ?_
                    refine EW.ret1 (.inl rfl) rfl rfl ⟨?_, hC2⟩
                    exact congrArg (fun b => Ending.returned (.bool b)) (show _ = rightR r from by unfold rightR; first | (simp [*]; done) | (simp [*]; omega) | (simp [*]; intros; omega))
                  · skip
                    refine WL.op (by decide) (R.pickT rfl rfl) ?_
                    refine WL.op (by decide) (R.assign rfl) ?_  -- msg.go:78 t2 := (Op.assign t64)
                    refine WL.next ?_
                    refine CW.ret ?_
                    refine EW.inRet ?_
                    refine EW.thenRet ?_
                    refine EW.ret1 (.inl rfl) rfl rfl ⟨?_, hC2⟩
                    exact congrArg (fun b => Ending.returned (.bool b)) (show _ = rightR r from by unfold rightR; first | (simp [*]; done) | (simp [*]; omega) | (simp [*]; intros; omega))
                · skip
                  refine WL.gop (by decide) rfl rfl rfl (R.eql27 hadr rfl rfl rfl (decide_eq_false h9)) ?_
                  refine WL.op (by decide) (R.pickT rfl rfl) ?_  -- msg.go:78 t59 := (Op.pick t54 t58 c(Value.bool false))
                  refine WL.op (by decide) (R.move rfl) ?_  -- msg.go:78 t60 := (Op.move t59)
                  refine WL.pass (by decide) rfl rfl rfl ?_  -- msg.go:78 t61 := (Op.fieldAddr 57 t1 4) [guard 9 true]
                  refine WL.pass (by decide) rfl rfl rfl ?_  -- msg.go:78 t62 := (Op.load 9 t61) [guard 9 true]
                  refine WL.pass (by decide) rfl rfl rfl ?_  -- msg.go:78 t63 := (Op.call (Call.mk (Callee.value (Operand.func 50)) [t62] [9])) [guard 9 true]
                  refine WL.op (by decide) (R.pickF rfl rfl) ?_
                  refine WL.op (by decide) (R.assign rfl) ?_  -- msg.go:78 t2 := (Op.assign t64)
                  refine WL.next ?_
                  refine CW.ret ?_
                  refine EW.inRet ?_
                  refine EW.thenRet ?_
                  refine EW.ret1 (.inl rfl) rfl rfl ⟨?_, hC⟩
                  exact congrArg (fun b => Ending.returned (.bool b)) (show _ = rightR r from by unfold rightR; first | (simp [*]; done) | (simp [*]; omega) | (simp [*]; intros; omega))
              · skip
                refine WL.op (by decide) (R.move rfl) ?_  -- msg.go:78 t54 := (Op.move t53)
                refine WL.pass (by decide) rfl rfl rfl ?_  -- msg.go:78 t55 := (Op.fieldAddr 57 t1 3) [guard 3 true]
                refine WL.pass (by decide) rfl rfl rfl ?_  -- msg.go:78 t56 := (Op.load 27 t55) [guard 3 true]
                refine WL.pass (by decide) rfl rfl rfl ?_  -- msg.go:78 t57 := (Op.build 27 []) [guard 3 true]
                refine WL.pass (by decide) rfl rfl rfl ?_  -- msg.go:78 t58 := (Op.binOp BinOp.eql 27 t56 t57 27) [guard 3 true]
                refine WL.op (by decide) (R.pickF rfl rfl) ?_  -- msg.go:78 t59 := (Op.pick t54 t58 c(Value.bool false))
                refine WL.op (by decide) (R.move rfl) ?_  -- msg.go:78 t60 := (Op.move t59)
                refine WL.pass (by decide) rfl rfl rfl ?_  -- msg.go:78 t61 := (Op.fieldAddr 57 t1 4) [guard 9 true]
                refine WL.pass (by decide) rfl rfl rfl ?_  -- msg.go:78 t62 := (Op.load 9 t61) [guard 9 true]
                refine WL.pass (by decide) rfl rfl rfl ?_  -- msg.go:78 t63 := (Op.call (Call.mk (Callee.value (Operand.func 50)) [t62] [9])) [guard 9 true]
                refine WL.op (by decide) (R.pickF rfl rfl) ?_
                refine WL.op (by decide) (R.assign rfl) ?_  -- msg.go:78 t2 := (Op.assign t64)
                refine WL.next ?_
                refine CW.ret ?_
                refine EW.inRet ?_
                refine EW.thenRet ?_
                refine EW.ret1 (.inl rfl) rfl rfl ⟨?_, hC⟩
                exact congrArg (fun b => Ending.returned (.bool b)) (show _ = rightR r from by unfold rightR; first | (simp [*]; done) | (simp [*]; omega) | (simp [*]; intros; omega))
            · skip
              refine WL.op (by decide) (R.assign rfl) ?_  -- msg.go:77 t47 := (Op.assign t48)
              refine WL.next ?_
              refine CW.condF rfl ?_
              refine CW.rseq ?_  -- region 9
              refine WL.eqlS (by decide) rfl rfl (fun h10 => ?_) (fun h10 => ?_)  -- msg.go:77 t49 := (Op.binOp BinOp.eql 3 t18 c(Value.int IntKind.i64 5) 3)
              · skip
                refine WL.op (by decide) (R.assign rfl) ?_  -- msg.go:77 t47 := (Op.assign t49)
                refine WL.next ?_
                refine CW.condT rfl ?_
                refine CW.skip ?_
                refine EW.next ?_
                refine CW.condT rfl ?_
                refine CW.rseq ?_  -- region 11
                refine WL.op (by decide) (FA57_5 rfl) ?_  -- msg.go:78 t51 := (Op.fieldAddr 57 t1 5)
                refine WL.op (by decide) (R.load Tryd.underlying9 rfl rfl (cell_at hB (Rec.at20 hadr))) ?_  -- msg.go:78 t52 := (Op.load 9 t51)
                refine WL.split _ (by decide) (R.eqlStr rfl rfl) (fun h11 => ?_) (fun h11 => ?_)  -- msg.go:78 t53 := (Op.binOp BinOp.eql 9 t52 c(Value.string (ByteArray.mk [])) 9)
                · skip
                  refine WL.op (by decide) (R.move rfl) ?_  -- msg.go:78 t54 := (Op.move t53)
                  refine WL.gop (by decide) rfl rfl rfl (FA57_3 rfl) ?_  -- msg.go:78 t55 := (Op.fieldAddr 57 t1 3) [guard 3 true]
                  refine WL.gop (by decide) rfl rfl rfl (R.loadAgg1 (cs := r.addr.map u8v) Tryd.underlying27 rfl (by rw [List.length_map, hadr]; exact sz27) rfl (fun j u hj => cell_at hB (by rw [Nat.zero_add]; exact Rec.atAddr hj))) ?_  -- msg.go:78 t56 := (Op.load 27 t55) [guard 3 true]
                  refine WL.gop (by decide) rfl rfl rfl (R.build27) ?_  -- msg.go:78 t57 := (Op.build 27 []) [guard 3 true]
                  by_cases h12 : r.addr = zero16
                  · skip
                    refine WL.gop (by decide) rfl rfl rfl (R.eql27 hadr rfl rfl rfl (decide_eq_true h12)) ?_
                    refine WL.op (by decide) (R.pickT rfl rfl) ?_  -- msg.go:78 t59 := (Op.pick t54 t58 c(Value.bool false))
                    refine WL.op (by decide) (R.move rfl) ?_  -- msg.go:78 t60 := (Op.move t59)
                    refine WL.gop (by decide) rfl rfl rfl (FA57_4 rfl) ?_  -- msg.go:78 t61 := (Op.fieldAddr 57 t1 4) [guard 9 true]
                    refine WL.gop (by decide) rfl rfl rfl (R.load Tryd.underlying9 rfl rfl (cell_at hB (Rec.at19 hadr))) ?_  -- msg.go:78 t62 := (Op.load 9 t61) [guard 9 true]
                    refine WL.geff rfl rfl rfl (OP.call (by decide) Tryd.func50 (by kernel_rfl) (by kernel_rfl) rfl (names_any r.text w2 hl2) ?_)
                    rintro e w3 ⟨rfl, hc3⟩
                    refine ⟨_, rfl, ?_⟩
                    have hC2 := hC.trans hc3
                    cases ht : namesL r.text
                    · skip
                      refine WL.op (by decide) (R.pickT rfl rfl) ?_
                      refine WL.op (by decide) (R.assign rfl) ?_  -- msg.go:78 t2 := (Op.assign t64)
                      refine WL.next ?_
                      refine CW.ret ?_
                      refine EW.inRet ?_
                      refine EW.thenRet ?_
                      refine EW.ret1 (.inl rfl) rfl rfl ⟨?_, hC2⟩
                      exact congrArg (fun b => Ending.returned (.bool b)) (show _ = rightR r from by unfold rightR; first | (simp [*]; done) | (simp [*]; omega) | (simp [*]; intros; omega))
                    · skip
                      refine WL.op (by decide) (R.pickT rfl rfl) ?_
                      refine WL.op (by decide) (R.assign rfl) ?_  -- msg.go:78 t2 := (Op.assign t64)
                      refine WL.next ?_
                      refine CW.ret ?_
                      refine EW.inRet ?_
                      refine EW.thenRet ?_
                      refine EW.ret1 (.inl rfl) rfl rfl ⟨?_, hC2⟩
                      exact congrArg (fun b => Ending.returned (.bool b)) (show _ = rightR r from by unfold rightR; first | (simp [*]; done) | (simp [*]; omega) | (simp [*]; intros; omega))
                  · skip
                    refine WL.gop (by decide) rfl rfl rfl (R.eql27 hadr rfl rfl rfl (decide_eq_false h12)) ?_
                    refine WL.op (by decide) (R.pickT rfl rfl) ?_  -- msg.go:78 t59 := (Op.pick t54 t58 c(Value.bool false))
                    refine WL.op (by decide) (R.move rfl) ?_  -- msg.go:78 t60 := (Op.move t59)
                    refine WL.pass (by decide) rfl rfl rfl ?_  -- msg.go:78 t61 := (Op.fieldAddr 57 t1 4) [guard 9 true]
                    refine WL.pass (by decide) rfl rfl rfl ?_  -- msg.go:78 t62 := (Op.load 9 t61) [guard 9 true]
                    refine WL.pass (by decide) rfl rfl rfl ?_  -- msg.go:78 t63 := (Op.call (Call.mk (Callee.value (Operand.func 50)) [t62] [9])) [guard 9 true]
                    refine WL.op (by decide) (R.pickF rfl rfl) ?_
                    refine WL.op (by decide) (R.assign rfl) ?_  -- msg.go:78 t2 := (Op.assign t64)
                    refine WL.next ?_
                    refine CW.ret ?_
                    refine EW.inRet ?_
                    refine EW.thenRet ?_
                    refine EW.ret1 (.inl rfl) rfl rfl ⟨?_, hC⟩
                    exact congrArg (fun b => Ending.returned (.bool b)) (show _ = rightR r from by unfold rightR; first | (simp [*]; done) | (simp [*]; omega) | (simp [*]; intros; omega))
                · skip
                  refine WL.op (by decide) (R.move rfl) ?_  -- msg.go:78 t54 := (Op.move t53)
                  refine WL.pass (by decide) rfl rfl rfl ?_  -- msg.go:78 t55 := (Op.fieldAddr 57 t1 3) [guard 3 true]
                  refine WL.pass (by decide) rfl rfl rfl ?_  -- msg.go:78 t56 := (Op.load 27 t55) [guard 3 true]
                  refine WL.pass (by decide) rfl rfl rfl ?_  -- msg.go:78 t57 := (Op.build 27 []) [guard 3 true]
                  refine WL.pass (by decide) rfl rfl rfl ?_  -- msg.go:78 t58 := (Op.binOp BinOp.eql 27 t56 t57 27) [guard 3 true]
                  refine WL.op (by decide) (R.pickF rfl rfl) ?_  -- msg.go:78 t59 := (Op.pick t54 t58 c(Value.bool false))
                  refine WL.op (by decide) (R.move rfl) ?_  -- msg.go:78 t60 := (Op.move t59)
                  refine WL.pass (by decide) rfl rfl rfl ?_  -- msg.go:78 t61 := (Op.fieldAddr 57 t1 4) [guard 9 true]
                  refine WL.pass (by decide) rfl rfl rfl ?_  -- msg.go:78 t62 := (Op.load 9 t61) [guard 9 true]
                  refine WL.pass (by decide) rfl rfl rfl ?_  -- msg.go:78 t63 := (Op.call (Call.mk (Callee.value (Operand.func 50)) [t62] [9])) [guard 9 true]
                  refine WL.op (by decide) (R.pickF rfl rfl) ?_
                  refine WL.op (by decide) (R.assign rfl) ?_  -- msg.go:78 t2 := (Op.assign t64)
                  refine WL.next ?_
                  refine CW.ret ?_
                  refine EW.inRet ?_
                  refine EW.thenRet ?_
                  refine EW.ret1 (.inl rfl) rfl rfl ⟨?_, hC⟩
                  exact congrArg (fun b => Ending.returned (.bool b)) (show _ = rightR r from by unfold rightR; first | (simp [*]; done) | (simp [*]; omega) | (simp [*]; intros; omega))
              · skip
                refine WL.op (by decide) (R.assign rfl) ?_  -- msg.go:77 t47 := (Op.assign t49)
                refine WL.next ?_
                refine CW.condF rfl ?_
                refine CW.region ?_  -- region 10
                refine WL.eqlS (by decide) rfl rfl (fun h13 => ?_) (fun h13 => ?_)  -- msg.go:77 t50 := (Op.binOp BinOp.eql 3 t18 c(Value.int IntKind.i64 12) 3)
                · skip
                  refine WL.op (by decide) (R.assign rfl) ?_  -- msg.go:77 t47 := (Op.assign t50)
                  refine WL.nil ?_
                  refine EW.next ?_
                  refine CW.condT rfl ?_
                  refine CW.rseq ?_  -- region 11
                  refine WL.op (by decide) (FA57_5 rfl) ?_  -- msg.go:78 t51 := (Op.fieldAddr 57 t1 5)
                  refine WL.op (by decide) (R.load Tryd.underlying9 rfl rfl (cell_at hB (Rec.at20 hadr))) ?_  -- msg.go:78 t52 := (Op.load 9 t51)
                  refine WL.split _ (by decide) (R.eqlStr rfl rfl) (fun h14 => ?_) (fun h14 => ?_)  -- msg.go:78 t53 := (Op.binOp BinOp.eql 9 t52 c(Value.string (ByteArray.mk [])) 9)
                  · skip
                    refine WL.op (by decide) (R.move rfl) ?_  -- msg.go:78 t54 := (Op.move t53)
                    refine WL.gop (by decide) rfl rfl rfl (FA57_3 rfl) ?_  -- msg.go:78 t55 := (Op.fieldAddr 57 t1 3) [guard 3 true]
                    refine WL.gop (by decide) rfl rfl rfl (R.loadAgg1 (cs := r.addr.map u8v) Tryd.underlying27 rfl (by rw [List.length_map, hadr]; exact sz27) rfl (fun j u hj => cell_at hB (by rw [Nat.zero_add]; exact Rec.atAddr hj))) ?_  -- msg.go:78 t56 := (Op.load 27 t55) [guard 3 true]
                    refine WL.gop (by decide) rfl rfl rfl (R.build27) ?_  -- msg.go:78 t57 := (Op.build 27 []) [guard 3 true]
                    by_cases h15 : r.addr = zero16
                    · skip
                      refine WL.gop (by decide) rfl rfl rfl (R.eql27 hadr rfl rfl rfl (decide_eq_true h15)) ?_
                      refine WL.op (by decide) (R.pickT rfl rfl) ?_  -- msg.go:78 t59 := (Op.pick t54 t58 c(Value.bool false))
                      refine WL.op (by decide) (R.move rfl) ?_  -- msg.go:78 t60 := (Op.move t59)
                      refine WL.gop (by decide) rfl rfl rfl (FA57_4 rfl) ?_  -- msg.go:78 t61 := (Op.fieldAddr 57 t1 4) [guard 9 true]
                      refine WL.gop (by decide) rfl rfl rfl (R.load Tryd.underlying9 rfl rfl (cell_at hB (Rec.at19 hadr))) ?_  -- msg.go:78 t62 := (Op.load 9 t61) [guard 9 true]
                      refine WL.geff rfl rfl rfl (OP.call (by decide) Tryd.func50 (by kernel_rfl) (by kernel_rfl) rfl (names_any r.text w2 hl2) ?_)
                      rintro e w3 ⟨rfl, hc3⟩
                      refine ⟨_, rfl, ?_⟩
                      have hC2 := hC.trans hc3
                      cases ht : namesL r.text
                      · skip
                        refine WL.op (by decide) (R.pickT rfl rfl) ?_
                        refine WL.op (by decide) (R.assign rfl) ?_  -- msg.go:78 t2 := (Op.assign t64)
                        refine WL.next ?_
                        refine CW.ret ?_
                        refine EW.inRet ?_
                        refine EW.thenRet ?_
                        refine EW.ret1 (.inl rfl) rfl rfl ⟨?_, hC2⟩
                        exact congrArg (fun b => Ending.returned (.bool b)) (show _ = rightR r from by unfold rightR; first | (simp [*]; done) | (simp [*]; omega) | (simp [*]; intros; omega))
                      · skip
                        refine WL.op (by decide) (R.pickT rfl rfl) ?_
                        refine WL.op (by decide) (R.assign rfl) ?_  -- msg.go:78 t2 := (Op.assign t64)
                        refine WL.next ?_
                        refine CW.ret ?_
                        refine EW.inRet ?_
                        refine EW.thenRet ?_
                        refine EW.ret1 (.inl rfl) rfl rfl ⟨?_, hC2⟩
                        exact congrArg (fun b => Ending.returned (.bool b)) (show _ = rightR r from by unfold rightR; first | (simp [*]; done) | (simp [*]; omega) | (simp [*]; intros; omega))
                    · skip
                      refine WL.gop (by decide) rfl rfl rfl (R.eql27 hadr rfl rfl rfl (decide_eq_false h15)) ?_
                      refine WL.op (by decide) (R.pickT rfl rfl) ?_  -- msg.go:78 t59 := (Op.pick t54 t58 c(Value.bool false))
                      refine WL.op (by decide) (R.move rfl) ?_  -- msg.go:78 t60 := (Op.move t59)
                      refine WL.pass (by decide) rfl rfl rfl ?_  -- msg.go:78 t61 := (Op.fieldAddr 57 t1 4) [guard 9 true]
                      refine WL.pass (by decide) rfl rfl rfl ?_  -- msg.go:78 t62 := (Op.load 9 t61) [guard 9 true]
                      refine WL.pass (by decide) rfl rfl rfl ?_  -- msg.go:78 t63 := (Op.call (Call.mk (Callee.value (Operand.func 50)) [t62] [9])) [guard 9 true]
                      refine WL.op (by decide) (R.pickF rfl rfl) ?_
                      refine WL.op (by decide) (R.assign rfl) ?_  -- msg.go:78 t2 := (Op.assign t64)
                      refine WL.next ?_
                      refine CW.ret ?_
                      refine EW.inRet ?_
                      refine EW.thenRet ?_
                      refine EW.ret1 (.inl rfl) rfl rfl ⟨?_, hC⟩
                      exact congrArg (fun b => Ending.returned (.bool b)) (show _ = rightR r from by unfold rightR; first | (simp [*]; done) | (simp [*]; omega) | (simp [*]; intros; omega))
                  · skip
                    refine WL.op (by decide) (R.move rfl) ?_  -- msg.go:78 t54 := (Op.move t53)
                    refine WL.pass (by decide) rfl rfl rfl ?_  -- msg.go:78 t55 := (Op.fieldAddr 57 t1 3) [guard 3 true]
                    refine WL.pass (by decide) rfl rfl rfl ?_  -- msg.go:78 t56 := (Op.load 27 t55) [guard 3 true]
                    refine WL.pass (by decide) rfl rfl rfl ?_  -- msg.go:78 t57 := (Op.build 27 []) [guard 3 true]
                    refine WL.pass (by decide) rfl rfl rfl ?_  -- msg.go:78 t58 := (Op.binOp BinOp.eql 27 t56 t57 27) [guard 3 true]
                    refine WL.op (by decide) (R.pickF rfl rfl) ?_  -- msg.go:78 t59 := (Op.pick t54 t58 c(Value.bool false))
                    refine WL.op (by decide) (R.move rfl) ?_  -- msg.go:78 t60 := (Op.move t59)
                    refine WL.pass (by decide) rfl rfl rfl ?_  -- msg.go:78 t61 := (Op.fieldAddr 57 t1 4) [guard 9 true]
                    refine WL.pass (by decide) rfl rfl rfl ?_  -- msg.go:78 t62 := (Op.load 9 t61) [guard 9 true]
                    refine WL.pass (by decide) rfl rfl rfl ?_  -- msg.go:78 t63 := (Op.call (Call.mk (Callee.value (Operand.func 50)) [t62] [9])) [guard 9 true]
                    refine WL.op (by decide) (R.pickF rfl rfl) ?_
                    refine WL.op (by decide) (R.assign rfl) ?_  -- msg.go:78 t2 := (Op.assign t64)
                    refine WL.next ?_
                    refine CW.ret ?_
                    refine EW.inRet ?_
                    refine EW.thenRet ?_
                    refine EW.ret1 (.inl rfl) rfl rfl ⟨?_, hC⟩
                    exact congrArg (fun b => Ending.returned (.bool b)) (show _ = rightR r from by unfold rightR; first | (simp [*]; done) | (simp [*]; omega) | (simp [*]; intros; omega))
                · skip
                  refine WL.op (by decide) (R.assign rfl) ?_  -- msg.go:77 t47 := (Op.assign t50)
                  refine WL.nil ?_
                  refine EW.next ?_
                  refine CW.condF rfl ?_
                  refine CW.skip ?_
                  refine EW.inNormal ?_
                  refine EW.next ?_
                  refine CW.rseq ?_  -- region 12
                  refine WL.op (by decide) (FA57_1 rfl) ?_  -- msg.go:80 t65 := (Op.fieldAddr 57 t1 1)
                  refine WL.op (by decide) (R.load Tryd.underlying3 rfl rfl (cell_at hB r.at1)) ?_  -- msg.go:80 t66 := (Op.load 3 t65)
                  refine WL.gtrS (by decide) rfl rfl (fun h16 => ?_) (fun h16 => ?_)  -- msg.go:80 t67 := (Op.binOp BinOp.gtr 3 t66 c(Value.int IntKind.i64 0) 3)
                  · skip
                    refine WL.op (by decide) (R.move rfl) ?_  -- msg.go:80 t68 := (Op.move t67)
                    refine WL.gop (by decide) rfl rfl rfl (FA57_1 rfl) ?_  -- msg.go:80 t69 := (Op.fieldAddr 57 t1 1) [guard 3 true]
                    refine WL.gop (by decide) rfl rfl rfl (R.load Tryd.underlying3 rfl rfl (cell_at hB r.at1)) ?_  -- msg.go:80 t70 := (Op.load 3 t69) [guard 3 true]
                    refine WL.gsplit _ (by decide) rfl rfl rfl (R.lssD rfl rfl) (fun h17 => ?_) (fun h17 => ?_)  -- msg.go:80 t71 := (Op.binOp BinOp.lss 3 t70 c(Value.int IntKind.i64 65536) 3) [guard 3 true]
                    · skip
                      refine WL.op (by decide) (R.pickT rfl rfl) ?_  -- msg.go:80 t72 := (Op.pick t68 t71 c(Value.bool false))
                      refine WL.op (by decide) (R.move rfl) ?_  -- msg.go:80 t73 := (Op.move t72)
                      refine WL.gop (by decide) rfl rfl rfl (FA57_4 rfl) ?_  -- msg.go:80 t74 := (Op.fieldAddr 57 t1 4) [guard 8 true]
                      refine WL.gop (by decide) rfl rfl rfl (R.load Tryd.underlying9 rfl rfl (cell_at hB (Rec.at19 hadr))) ?_  -- msg.go:80 t75 := (Op.load 9 t74) [guard 8 true]
                      refine WL.gsplit _ (by decide) rfl rfl rfl (R.eqlStr rfl rfl) (fun h18 => ?_) (fun h18 => ?_)  -- msg.go:80 t76 := (Op.binOp BinOp.eql 9 t75 c(Value.string (ByteArray.mk [])) 9) [guard 8 true]
                      · skip
                        refine WL.op (by decide) (R.pickT rfl rfl) ?_  -- msg.go:80 t77 := (Op.pick t73 t76 c(Value.bool false))
                        refine WL.op (by decide) (R.move rfl) ?_  -- msg.go:80 t78 := (Op.move t77)
                        refine WL.gop (by decide) rfl rfl rfl (FA57_3 rfl) ?_  -- msg.go:80 t79 := (Op.fieldAddr 57 t1 3) [guard 13 true]
                        refine WL.gop (by decide) rfl rfl rfl (R.loadAgg1 (cs := r.addr.map u8v) Tryd.underlying27 rfl (by rw [List.length_map, hadr]; exact sz27) rfl (fun j u hj => cell_at hB (by rw [Nat.zero_add]; exact Rec.atAddr hj))) ?_  -- msg.go:80 t80 := (Op.load 27 t79) [guard 13 true]
                        refine WL.gop (by decide) rfl rfl rfl (R.build27) ?_  -- msg.go:80 t81 := (Op.build 27 []) [guard 13 true]
                        by_cases h19 : r.addr = zero16
                        · skip
                          refine WL.gop (by decide) rfl rfl rfl (R.eql27 hadr rfl rfl rfl (decide_eq_true h19)) ?_
                          refine WL.op (by decide) (R.pickT rfl rfl) ?_  -- msg.go:80 t83 := (Op.pick t78 t82 c(Value.bool false))
                          refine WL.op (by decide) (R.move rfl) ?_  -- msg.go:80 t84 := (Op.move t83)
                          refine WL.gop (by decide) rfl rfl rfl (FA57_5 rfl) ?_  -- msg.go:80 t85 := (Op.fieldAddr 57 t1 5) [guard 19 true]
                          refine WL.gop (by decide) rfl rfl rfl (R.load Tryd.underlying9 rfl rfl (cell_at hB (Rec.at20 hadr))) ?_  -- msg.go:80 t86 := (Op.load 9 t85) [guard 19 true]
                          refine WL.gop (by decide) rfl rfl rfl (R.lenS rfl rfl) ?_  -- msg.go:80 t87 := (Op.call (Call.mk (Callee.builtin Builtin.len) [t86] [9])) [guard 19 true]
                          refine WL.gsplit _ (by decide) rfl rfl rfl (R.leqD rfl rfl) (fun h20 => ?_) (fun h20 => ?_)  -- msg.go:80 t88 := (Op.binOp BinOp.leq 3 t87 c(Value.int IntKind.i64 255) 3) [guard 19 true]
                          · skip
                            refine WL.op (by decide) (R.pickT rfl rfl) ?_  -- msg.go:80 t89 := (Op.pick t84 t88 c(Value.bool false))
                            refine WL.op (by decide) (R.assign rfl) ?_  -- msg.go:80 t2 := (Op.assign t89)
                            refine WL.next ?_
                            refine CW.ret ?_
                            refine EW.ret1 (.inl rfl) rfl rfl ⟨?_, hC⟩
                            exact congrArg (fun b => Ending.returned (.bool b)) (show _ = rightR r from by unfold rightR; first | (simp [*]; done) | (simp [*]; omega) | (simp [*]; intros; omega))
                          · skip
                            refine WL.op (by decide) (R.pickT rfl rfl) ?_  -- msg.go:80 t89 := (Op.pick t84 t88 c(Value.bool false))
                            refine WL.op (by decide) (R.assign rfl) ?_  -- msg.go:80 t2 := (Op.assign t89)
                            refine WL.next ?_
                            refine CW.ret ?_
                            refine EW.ret1 (.inl rfl) rfl rfl ⟨?_, hC⟩
                            exact congrArg (fun b => Ending.returned (.bool b)) (show _ = rightR r from by unfold rightR; first | (simp [*]; done) | (simp [*]; omega) | (simp [*]; intros; omega))
                        · skip
                          refine WL.gop (by decide) rfl rfl rfl (R.eql27 hadr rfl rfl rfl (decide_eq_false h19)) ?_
                          refine WL.op (by decide) (R.pickT rfl rfl) ?_  -- msg.go:80 t83 := (Op.pick t78 t82 c(Value.bool false))
                          refine WL.op (by decide) (R.move rfl) ?_  -- msg.go:80 t84 := (Op.move t83)
                          refine WL.pass (by decide) rfl rfl rfl ?_  -- msg.go:80 t85 := (Op.fieldAddr 57 t1 5) [guard 19 true]
                          refine WL.pass (by decide) rfl rfl rfl ?_  -- msg.go:80 t86 := (Op.load 9 t85) [guard 19 true]
                          refine WL.pass (by decide) rfl rfl rfl ?_  -- msg.go:80 t87 := (Op.call (Call.mk (Callee.builtin Builtin.len) [t86] [9])) [guard 19 true]
                          refine WL.pass (by decide) rfl rfl rfl ?_  -- msg.go:80 t88 := (Op.binOp BinOp.leq 3 t87 c(Value.int IntKind.i64 255) 3) [guard 19 true]
                          refine WL.op (by decide) (R.pickF rfl rfl) ?_  -- msg.go:80 t89 := (Op.pick t84 t88 c(Value.bool false))
                          refine WL.op (by decide) (R.assign rfl) ?_  -- msg.go:80 t2 := (Op.assign t89)
                          refine WL.next ?_
                          refine CW.ret ?_
                          refine EW.ret1 (.inl rfl) rfl rfl ⟨?_, hC⟩
                          exact congrArg (fun b => Ending.returned (.bool b)) (show _ = rightR r from by unfold rightR; first | (simp [*]; done) | (simp [*]; omega) | (simp [*]; intros; omega))
                      · skip
                        refine WL.op (by decide) (R.pickT rfl rfl) ?_  -- msg.go:80 t77 := (Op.pick t73 t76 c(Value.bool false))
                        refine WL.op (by decide) (R.move rfl) ?_  -- msg.go:80 t78 := (Op.move t77)
                        refine WL.pass (by decide) rfl rfl rfl ?_  -- msg.go:80 t79 := (Op.fieldAddr 57 t1 3) [guard 13 true]
                        refine WL.pass (by decide) rfl rfl rfl ?_  -- msg.go:80 t80 := (Op.load 27 t79) [guard 13 true]
                        refine WL.pass (by decide) rfl rfl rfl ?_  -- msg.go:80 t81 := (Op.build 27 []) [guard 13 true]
                        refine WL.pass (by decide) rfl rfl rfl ?_  -- msg.go:80 t82 := (Op.binOp BinOp.eql 27 t80 t81 27) [guard 13 true]
                        refine WL.op (by decide) (R.pickF rfl rfl) ?_  -- msg.go:80 t83 := (Op.pick t78 t82 c(Value.bool false))
                        refine WL.op (by decide) (R.move rfl) ?_  -- msg.go:80 t84 := (Op.move t83)
                        refine WL.pass (by decide) rfl rfl rfl ?_  -- msg.go:80 t85 := (Op.fieldAddr 57 t1 5) [guard 19 true]
                        refine WL.pass (by decide) rfl rfl rfl ?_  -- msg.go:80 t86 := (Op.load 9 t85) [guard 19 true]
                        refine WL.pass (by decide) rfl rfl rfl ?_  -- msg.go:80 t87 := (Op.call (Call.mk (Callee.builtin Builtin.len) [t86] [9])) [guard 19 true]
                        refine WL.pass (by decide) rfl rfl rfl ?_  -- msg.go:80 t88 := (Op.binOp BinOp.leq 3 t87 c(Value.int IntKind.i64 255) 3) [guard 19 true]
                        refine WL.op (by decide) (R.pickF rfl rfl) ?_  -- msg.go:80 t89 := (Op.pick t84 t88 c(Value.bool false))
                        refine WL.op (by decide) (R.assign rfl) ?_  -- msg.go:80 t2 := (Op.assign t89)
                        refine WL.next ?_
                        refine CW.ret ?_
                        refine EW.ret1 (.inl rfl) rfl rfl ⟨?_, hC⟩
                        exact congrArg (fun b => Ending.returned (.bool b)) (show _ = rightR r from by unfold rightR; first | (simp [*]; done) | (simp [*]; omega) | (simp [*]; intros; omega))
                    · skip
                      refine WL.op (by decide) (R.pickT rfl rfl) ?_  -- msg.go:80 t72 := (Op.pick t68 t71 c(Value.bool false))
                      refine WL.op (by decide) (R.move rfl) ?_  -- msg.go:80 t73 := (Op.move t72)
                      refine WL.pass (by decide) rfl rfl rfl ?_  -- msg.go:80 t74 := (Op.fieldAddr 57 t1 4) [guard 8 true]
                      refine WL.pass (by decide) rfl rfl rfl ?_  -- msg.go:80 t75 := (Op.load 9 t74) [guard 8 true]
                      refine WL.pass (by decide) rfl rfl rfl ?_  -- msg.go:80 t76 := (Op.binOp BinOp.eql 9 t75 c(Value.string (ByteArray.mk [])) 9) [guard 8 true]
                      refine WL.op (by decide) (R.pickF rfl rfl) ?_  -- msg.go:80 t77 := (Op.pick t73 t76 c(Value.bool false))
                      refine WL.op (by decide) (R.move rfl) ?_  -- msg.go:80 t78 := (Op.move t77)
                      refine WL.pass (by decide) rfl rfl rfl ?_  -- msg.go:80 t79 := (Op.fieldAddr 57 t1 3) [guard 13 true]
                      refine WL.pass (by decide) rfl rfl rfl ?_  -- msg.go:80 t80 := (Op.load 27 t79) [guard 13 true]
                      refine WL.pass (by decide) rfl rfl rfl ?_  -- msg.go:80 t81 := (Op.build 27 []) [guard 13 true]
                      refine WL.pass (by decide) rfl rfl rfl ?_  -- msg.go:80 t82 := (Op.binOp BinOp.eql 27 t80 t81 27) [guard 13 true]
                      refine WL.op (by decide) (R.pickF rfl rfl) ?_  -- msg.go:80 t83 := (Op.pick t78 t82 c(Value.bool false))
                      refine WL.op (by decide) (R.move rfl) ?_  -- msg.go:80 t84 := (Op.move t83)
                      refine WL.pass (by decide) rfl rfl rfl ?_  -- msg.go:80 t85 := (Op.fieldAddr 57 t1 5) [guard 19 true]
                      refine WL.pass (by decide) rfl rfl rfl ?_  -- msg.go:80 t86 := (Op.load 9 t85) [guard 19 true]
                      refine WL.pass (by decide) rfl rfl rfl ?_  -- msg.go:80 t87 := (Op.call (Call.mk (Callee.builtin Builtin.len) [t86] [9])) [guard 19 true]
                      refine WL.pass (by decide) rfl rfl rfl ?_  -- msg.go:80 t88 := (Op.binOp BinOp.leq 3 t87 c(Value.int IntKind.i64 255) 3) [guard 19 true]
                      refine WL.op (by decide) (R.pickF rfl rfl) ?_  -- msg.go:80 t89 := (Op.pick t84 t88 c(Value.bool false))
                      refine WL.op (by decide) (R.assign rfl) ?_  -- msg.go:80 t2 := (Op.assign t89)
                      refine WL.next ?_
                      refine CW.ret ?_
                      refine EW.ret1 (.inl rfl) rfl rfl ⟨?_, hC⟩
                      exact congrArg (fun b => Ending.returned (.bool b)) (show _ = rightR r from by unfold rightR; first | (simp [*]; done) | (simp [*]; omega) | (simp [*]; intros; omega))
                  · skip
                    refine WL.op (by decide) (R.move rfl) ?_  -- msg.go:80 t68 := (Op.move t67)
                    refine WL.pass (by decide) rfl rfl rfl ?_  -- msg.go:80 t69 := (Op.fieldAddr 57 t1 1) [guard 3 true]
                    refine WL.pass (by decide) rfl rfl rfl ?_  -- msg.go:80 t70 := (Op.load 3 t69) [guard 3 true]
                    refine WL.pass (by decide) rfl rfl rfl ?_  -- msg.go:80 t71 := (Op.binOp BinOp.lss 3 t70 c(Value.int IntKind.i64 65536) 3) [guard 3 true]
                    refine WL.op (by decide) (R.pickF rfl rfl) ?_  -- msg.go:80 t72 := (Op.pick t68 t71 c(Value.bool false))
                    refine WL.op (by decide) (R.move rfl) ?_  -- msg.go:80 t73 := (Op.move t72)
                    refine WL.pass (by decide) rfl rfl rfl ?_  -- msg.go:80 t74 := (Op.fieldAddr 57 t1 4) [guard 8 true]
                    refine WL.pass (by decide) rfl rfl rfl ?_  -- msg.go:80 t75 := (Op.load 9 t74) [guard 8 true]
                    refine WL.pass (by decide) rfl rfl rfl ?_  -- msg.go:80 t76 := (Op.binOp BinOp.eql 9 t75 c(Value.string (ByteArray.mk [])) 9) [guard 8 true]
                    refine WL.op (by decide) (R.pickF rfl rfl) ?_  -- msg.go:80 t77 := (Op.pick t73 t76 c(Value.bool false))
                    refine WL.op (by decide) (R.move rfl) ?_  -- msg.go:80 t78 := (Op.move t77)
                    refine WL.pass (by decide) rfl rfl rfl ?_  -- msg.go:80 t79 := (Op.fieldAddr 57 t1 3) [guard 13 true]
                    refine WL.pass (by decide) rfl rfl rfl ?_  -- msg.go:80 t80 := (Op.load 27 t79) [guard 13 true]
                    refine WL.pass (by decide) rfl rfl rfl ?_  -- msg.go:80 t81 := (Op.build 27 []) [guard 13 true]
                    refine WL.pass (by decide) rfl rfl rfl ?_  -- msg.go:80 t82 := (Op.binOp BinOp.eql 27 t80 t81 27) [guard 13 true]
                    refine WL.op (by decide) (R.pickF rfl rfl) ?_  -- msg.go:80 t83 := (Op.pick t78 t82 c(Value.bool false))
                    refine WL.op (by decide) (R.move rfl) ?_  -- msg.go:80 t84 := (Op.move t83)
                    refine WL.pass (by decide) rfl rfl rfl ?_  -- msg.go:80 t85 := (Op.fieldAddr 57 t1 5) [guard 19 true]
                    refine WL.pass (by decide) rfl rfl rfl ?_  -- msg.go:80 t86 := (Op.load 9 t85) [guard 19 true]
                    refine WL.pass (by decide) rfl rfl rfl ?_  -- msg.go:80 t87 := (Op.call (Call.mk (Callee.builtin Builtin.len) [t86] [9])) [guard 19 true]
                    refine WL.pass (by decide) rfl rfl rfl ?_  -- msg.go:80 t88 := (Op.binOp BinOp.leq 3 t87 c(Value.int IntKind.i64 255) 3) [guard 19 true]
                    refine WL.op (by decide) (R.pickF rfl rfl) ?_  -- msg.go:80 t89 := (Op.pick t84 t88 c(Value.bool false))
                    refine WL.op (by decide) (R.assign rfl) ?_  -- msg.go:80 t2 := (Op.assign t89)
                    refine WL.next ?_
                    refine CW.ret ?_
                    refine EW.ret1 (.inl rfl) rfl rfl ⟨?_, hC⟩
                    exact congrArg (fun b => Ending.returned (.bool b)) (show _ = rightR r from by unfold rightR; first | (simp [*]; done) | (simp [*]; omega) | (simp [*]; intros; omega))
end Go.Proofs.YthcpjcgjmdfpjaaDoor
