/- label.Split. -/
import Derived.Test.YthcpjcgjmdfpjaaDoorStrs
import Derived.Test.YthcpjcgjmdfpjaaDoorSpec
namespace Go.Proofs.YthcpjcgjmdfpjaaDoor
open Go Go.RowKit
set_option maxRecDepth 100000

theorem split_any (s : List UInt8) (w : World) (hl : s.length ≤ 1099511627776) :
    Calls Tryd.prog 39 #[sv s] w fun e w' => ∃ v, e = .returned v ∧ SBuf w' w.heap.size v (splitL s) ∧ Chg (fun _ => False) w w' := by
  refine calls_cw (args := [sv s]) Tryd.func39 rfl rfl ?_
  show CW _ _ _ 33 [(0, sv s)] w
  refine CW.rseq ?_  -- region 0
  refine WL.op (by decide) (R.assign rfl) ?_  -- label.go:33 t2 := (Op.assign c(Value.slice none 0 0))
  refine WL.next ?_
  refine CW.rseq ?_  -- region 1
  refine WL.op (by decide) (R.assign rfl) ?_  -- label.go:34 t3 := (Op.assign c(Value.slice none 0 0))
  refine WL.next ?_
  refine CW.rseq ?_  -- region 2
  refine WL.op (by decide) (R.assign rfl) ?_  -- label.go:35 t4 := (Op.assign c(Value.int IntKind.i64 0))
  refine WL.next ?_
  refine CW.seq ?_
  refine CW.rseq ?_  -- region 3
  refine WL.op (by decide) (R.move rfl) ?_  -- label.go:36 t6 := (Op.move t0)
  refine WL.op (by decide) (R.lenS rfl rfl) ?_  -- label.go:36 t7 := (Op.call (Call.mk (Callee.builtin Builtin.len) [t6] [9]))
  refine WL.op (by decide) (R.add rfl rfl (by omega)) ?_  -- label.go:36 t8 := (Op.binOp BinOp.add 3 t7 c(Value.int IntKind.i64 1) 3)
  refine WL.op (by decide) (R.move rfl) ?_  -- label.go:36 t9 := (Op.move c(Value.int IntKind.i64 0))
  refine WL.next ?_
  refine CW.block ?_
  refine CW.loopK [0, 3, 4, 8, 9] (fun m l wr => ∃ (j fr : Nat) (i f : Int) (v : Value) (done : List (List UInt8)), j + m = s.length + 1 ∧ i = (j : Int) ∧ f = (fr : Int) ∧ l = [(0, sv s), (3, v), (4, .int .i64 f), (8, .int .i64 ((s.length : Int) + 1)), (9, .int .i64 i)] ∧ Chg (fun _ => False) w wr ∧ SBuf wr w.heap.size v done ∧ done.length ≤ j ∧ (j ≤ s.length → SplitAt s done fr j) ∧ (j = s.length + 1 → done = splitL s)) (s.length + 1) ?_ ?_
  · exact ⟨0, 0, _, _, _, [], by omega, rfl, rfl, rfl, Chg.refl _ _, World.ownsRow_nil _ _ _ _, by simp, fun _ => SplitAt.start s, fun h => by omega⟩
  · rintro m l wr ⟨j, fr, i, f, v, done, hm, rfl, rfl, rfl, hC, hB, hd, hS, hE⟩
    have hws := hC.size
    refine CW.rseq ?_  -- region 4
    refine WL.lssS (by decide) rfl rfl (fun h1 => ?_) (fun h1 => ?_)  -- label.go:36 t10 := (Op.binOp BinOp.lss 3 t9 t8 3)
    · skip
      refine WL.next ?_
      refine CW.seq ?_
      refine CW.condT rfl ?_
      refine CW.skip ?_
      refine EW.next ?_
      refine CW.seq ?_
      refine CW.block ?_
      refine CW.rseq ?_  -- region 5
      refine WL.op (by decide) (R.move rfl) ?_  -- label.go:36 t11 := (Op.move t9)
      refine WL.op (by decide) (R.assign rfl) ?_  -- label.go:36 t5 := (Op.assign t11)
      refine WL.next ?_
      refine CW.rseq ?_  -- region 6
      refine WL.op (by decide) (R.move rfl) ?_  -- label.go:37 t12 := (Op.move t5)
      refine WL.op (by decide) (R.move rfl) ?_  -- label.go:37 t13 := (Op.move t0)
      refine WL.op (by decide) (R.lenS rfl rfl) ?_  -- label.go:37 t14 := (Op.call (Call.mk (Callee.builtin Builtin.len) [t13] [9]))
      refine WL.eqlS (by decide) rfl rfl (fun h2 => ?_) (fun h2 => ?_)  -- label.go:37 t15 := (Op.binOp BinOp.eql 3 t12 t14 3)
      · skip
        refine WL.op (by decide) (R.move rfl) ?_  -- label.go:37 t16 := (Op.move t15)
        refine WL.pass (by decide) rfl rfl rfl ?_  -- label.go:37 t17 := (Op.move t0) [guard 4 false]
        refine WL.pass (by decide) rfl rfl rfl ?_  -- label.go:37 t18 := (Op.move t5) [guard 4 false]
        refine WL.pass (by decide) rfl rfl rfl ?_  -- label.go:37 t19 := (Op.index 9 t17 t18) [guard 4 false]
        refine WL.pass (by decide) rfl rfl rfl ?_  -- label.go:37 t20 := (Op.binOp BinOp.eql 5 t19 c(Value.int IntKind.u8 46) 5) [guard 4 false]
        refine WL.op (by decide) (R.pickT rfl rfl) ?_  -- label.go:37 t21 := (Op.pick t16 c(Value.bool true) t20)
        refine WL.next ?_
        refine CW.condT rfl ?_
        refine CW.rseq ?_  -- region 7
        refine WL.op (by decide) (R.move rfl) ?_  -- label.go:38 t22 := (Op.move t3)
        refine WL.op (by decide) (R.move rfl) ?_  -- label.go:38 t23 := (Op.move t0)
        refine WL.op (by decide) (R.move rfl) ?_  -- label.go:38 t24 := (Op.move t4)
        refine WL.op (by decide) (R.move rfl) ?_  -- label.go:38 t25 := (Op.move t5)
        have hj : j ≤ s.length := by omega
        obtain ⟨hfj, hsp⟩ := hS hj
        refine WL.op (by decide) (R.sliceS rfl rfl rfl rfl rfl hfj hj) ?_
        refine WL.eff rfl (OP.buildSliceS (by decide) rfl ?_)
        intro w1 hc1 hs1 hb1
        have hB1 := hB.kept hc1 (fun _ _ h => h)
        refine WL.eff rfl (OP.appendS (by decide) rfl rfl hB1 hb1 (by omega) (by omega) ?_)
        intro v2 w2 hB2 hM2
        have hC2 : Chg (fun _ => False) w w2 := (hC.trans hc1).then (Chg.moved hM2) (fun k hk e => by have := hB1.lt k e.symm; omega)
        refine WL.op (by decide) (R.assign rfl) ?_  -- label.go:38 t3 := (Op.assign t28)
        refine WL.next ?_
        refine CW.region ?_  -- region 8
        refine WL.op (by decide) (R.move rfl) ?_  -- label.go:39 t29 := (Op.move t5)
        refine WL.op (by decide) (R.add rfl rfl (by omega)) ?_  -- label.go:39 t30 := (Op.binOp BinOp.add 3 t29 c(Value.int IntKind.i64 1) 3)
        refine WL.op (by decide) (R.assign rfl) ?_  -- label.go:39 t4 := (Op.assign t30)
        refine WL.nil ?_
        refine EW.inNormal ?_
        refine EW.next ?_
        refine CW.region ?_  -- region 9
        refine WL.op (by decide) (R.add rfl rfl (by omega)) ?_  -- label.go:36 t31 := (Op.binOp BinOp.add 3 t9 c(Value.int IntKind.i64 1) 3)
        refine WL.op (by decide) (R.move rfl) ?_  -- label.go:36 t9 := (Op.move t31)
        refine WL.nil ?_
        refine EW.roundK [0, 3, 4, 8, 9] (m - 1) (by omega) ⟨j + 1, j + 1, _, _, v2, _, by omega, by omega, by omega, rfl, hC2, hB2, by simp; omega, ?_, ?_⟩
        · intro h; omega
        · intro h; obtain rfl : j = s.length := by omega
          exact SplitAt.last ⟨hfj, hsp⟩
      · skip
        refine WL.op (by decide) (R.move rfl) ?_  -- label.go:37 t16 := (Op.move t15)
        have hjn : j < s.length := by omega
        obtain ⟨c, hc⟩ : ∃ c, s[j]? = some c := ⟨s[j], List.getElem?_eq_getElem hjn⟩
        refine WL.gop (by decide) rfl rfl rfl (R.move rfl) ?_
        refine WL.gop (by decide) rfl rfl rfl (R.move rfl) ?_  -- label.go:37 t18 := (Op.move t5) [guard 4 false]
        refine WL.gop (by decide) rfl rfl rfl (R.indexS rfl rfl rfl hc) ?_  -- label.go:37 t19 := (Op.index 9 t17 t18) [guard 4 false]
        refine WL.gsplit _ (by decide) rfl rfl rfl (R.eqlD rfl rfl) (fun h3 => ?_) (fun h3 => ?_)  -- label.go:37 t20 := (Op.binOp BinOp.eql 5 t19 c(Value.int IntKind.u8 46) 5) [guard 4 false]
        · skip
          refine WL.op (by decide) (R.pickF rfl rfl) ?_  -- label.go:37 t21 := (Op.pick t16 c(Value.bool true) t20)
          refine WL.next ?_
          refine CW.condT rfl ?_
          refine CW.rseq ?_  -- region 7
          refine WL.op (by decide) (R.move rfl) ?_  -- label.go:38 t22 := (Op.move t3)
          refine WL.op (by decide) (R.move rfl) ?_  -- label.go:38 t23 := (Op.move t0)
          refine WL.op (by decide) (R.move rfl) ?_  -- label.go:38 t24 := (Op.move t4)
          refine WL.op (by decide) (R.move rfl) ?_  -- label.go:38 t25 := (Op.move t5)
          have hj : j ≤ s.length := by omega
          obtain ⟨hfj, hsp⟩ := hS hj
          refine WL.op (by decide) (R.sliceS rfl rfl rfl rfl rfl hfj hj) ?_
          refine WL.eff rfl (OP.buildSliceS (by decide) rfl ?_)
          intro w1 hc1 hs1 hb1
          have hB1 := hB.kept hc1 (fun _ _ h => h)
          refine WL.eff rfl (OP.appendS (by decide) rfl rfl hB1 hb1 (by omega) (by omega) ?_)
          intro v2 w2 hB2 hM2
          have hC2 : Chg (fun _ => False) w w2 := (hC.trans hc1).then (Chg.moved hM2) (fun k hk e => by have := hB1.lt k e.symm; omega)
          refine WL.op (by decide) (R.assign rfl) ?_  -- label.go:38 t3 := (Op.assign t28)
          refine WL.next ?_
          refine CW.region ?_  -- region 8
          refine WL.op (by decide) (R.move rfl) ?_  -- label.go:39 t29 := (Op.move t5)
          refine WL.op (by decide) (R.add rfl rfl (by omega)) ?_  -- label.go:39 t30 := (Op.binOp BinOp.add 3 t29 c(Value.int IntKind.i64 1) 3)
          refine WL.op (by decide) (R.assign rfl) ?_  -- label.go:39 t4 := (Op.assign t30)
          refine WL.nil ?_
          refine EW.inNormal ?_
          refine EW.next ?_
          refine CW.region ?_  -- region 9
          refine WL.op (by decide) (R.add rfl rfl (by omega)) ?_  -- label.go:36 t31 := (Op.binOp BinOp.add 3 t9 c(Value.int IntKind.i64 1) 3)
          refine WL.op (by decide) (R.move rfl) ?_  -- label.go:36 t9 := (Op.move t31)
          refine WL.nil ?_
          refine EW.roundK [0, 3, 4, 8, 9] (m - 1) (by omega) ⟨j + 1, j + 1, _, _, v2, _, by omega, by omega, by omega, rfl, hC2, hB2, by simp; omega, ?_, ?_⟩
          · intro _; exact SplitAt.dot ⟨hfj, hsp⟩ (by rw [hc]; congr 1; exact UInt8.toNat_inj.1 (by simpa using Int.ofNat_inj.1 h3))
          · intro h; omega
        · skip
          refine WL.op (by decide) (R.pickF rfl rfl) ?_  -- label.go:37 t21 := (Op.pick t16 c(Value.bool true) t20)
          refine WL.next ?_
          refine CW.condF rfl ?_
          refine CW.skip ?_
          refine EW.inNormal ?_
          refine EW.next ?_
          refine CW.region ?_  -- region 9
          refine WL.op (by decide) (R.add rfl rfl (by omega)) ?_  -- label.go:36 t31 := (Op.binOp BinOp.add 3 t9 c(Value.int IntKind.i64 1) 3)
          refine WL.op (by decide) (R.move rfl) ?_  -- label.go:36 t9 := (Op.move t31)
          refine WL.nil ?_
          refine EW.roundK [0, 3, 4, 8, 9] (m - 1) (by omega) ⟨j + 1, fr, _, _, v, done, by omega, by omega, rfl, rfl, hC, hB, by omega, fun _ => (hS (by omega)).sign hc (fun e => h3 (by rw [e]; rfl)), fun h => by omega⟩
    · skip
      refine WL.next ?_
      refine CW.seq ?_
      refine CW.condF rfl ?_
      refine CW.exit ?_
      refine EW.thenExit ?_
      refine EW.thenExit ?_
      refine EW.inHere ?_
      refine EW.next ?_
      refine CW.rseq ?_  -- region 10
      refine WL.op (by decide) (R.move rfl) ?_  -- label.go:42 t32 := (Op.move t3)
      refine WL.op (by decide) (R.assign rfl) ?_  -- label.go:42 t2 := (Op.assign t32)
      refine WL.next ?_
      refine CW.ret ?_
      obtain rfl := hE (by omega)
      refine EW.ret1 (.inl rfl) rfl rfl ⟨v, rfl, hB, hC⟩
end Go.Proofs.YthcpjcgjmdfpjaaDoor
