/- (*reader).name. -/
import Derived.Test.YthcpjcgjmdfpjaaDoorRdSpec
import Derived.Test.YthcpjcgjmdfpjaaDoorWhole
namespace Go.Proofs.YthcpjcgjmdfpjaaDoor
open Go Go.RowKit
set_option maxRecDepth 100000
set_option maxHeartbeats 4000000

theorem SBuf.args {w : World} {base : Nat} {v : Value} {ls : List (List UInt8)} (h : SBuf w base v ls) : ∃ B cap, v = .slice B ls.length cap ∧ ∀ (j : Nat) (s : List UInt8), ls[j]? = some s → ∃ g o, B = some ⟨g, o, none⟩ ∧ w.cell? ⟨g, o + j, none⟩ = some (sv s) := by
  rcases h.open with ⟨rfl, rfl⟩ | ⟨g, cap, rfl, _, _, _, hcell⟩
  · exact ⟨none, 0, rfl, fun j s hj => by simp at hj⟩
  · exact ⟨some ⟨g, 0, none⟩, cap, rfl, fun j s hj => ⟨g, 0, rfl, by rw [Nat.zero_add]; exact hcell j s hj⟩⟩

theorem rname_ok (rb : Nat) (A : Option Addr) (mm c : Nat) (bs : List UInt8) (a : Nat) (w : World) (res : Option (List UInt8 × Nat)) (hR : RSt w rb A mm c a false) (hS : Src w A mm c bs) (hg : ∀ g o, A = some ⟨g, o, none⟩ → g ≠ rb) (ha : a ≤ 1099511627776) (hm : mm ≤ 1099511627776) (hrb : rb < w.heap.size)
    (hres : rdName bs 300 a 0 0 [] a = res) :
    Calls Tryd.prog 46 #[.pointer (some ⟨rb, 0, none⟩)] w fun e w' => ∃ s a' bad', e = .returned (sv s) ∧ RSt w' rb A mm c a' bad' ∧ Chg (fun k => k = rb) w w' ∧ NameRes res s a' bad' := by
  have hlen := hS.len
  have hcap := hS.cap
  have hgl : mm ≠ 0 → ∀ g o, A = some ⟨g, o, none⟩ → g < w.heap.size := by
    intro h0 g o hA
    obtain ⟨g', o', hA', hcell⟩ := hS.cells h0
    rw [hA] at hA'; injection hA' with e; injection e with e1 e2; subst e1
    obtain ⟨b, hb⟩ : ∃ b, bs[0]? = some b := ⟨bs[0]'(by omega), List.getElem?_eq_getElem _⟩
    exact World.block_lt_of_cell? w _ (hcell 0 b hb)
  refine calls_cw (args := [.pointer (some ⟨rb, 0, none⟩)]) Tryd.func46 rfl rfl ?_
  show CW _ _ _ 141 [(0, .pointer (some ⟨rb, 0, none⟩))] w
  refine CW.rseq ?_  -- region 0
  refine WL.op (by decide) (R.assign rfl) ?_  -- msg.go:156 t2 := (Op.assign c(Value.string (ByteArray.mk [])))
  refine WL.next ?_
  refine CW.rseq ?_  -- region 1
  refine WL.op (by decide) (R.assign rfl) ?_  -- msg.go:157 t3 := (Op.assign c(Value.slice none 0 0))
  refine WL.next ?_
  refine CW.rseq ?_  -- region 2
  refine WL.op (by decide) (R.move rfl) ?_  -- msg.go:158 t9 := (Op.move t0)
  refine WL.op (by decide) (R.nilCheck rfl) ?_  -- msg.go:158 t10 := (Op.nilCheck t9)
  refine WL.op (by decide) (FA100_1 rfl) ?_  -- msg.go:158 t11 := (Op.fieldAddr 100 t10 1)
  refine WL.op (by decide) (R.load Tryd.underlying3 rfl rfl (cell_at hR rfl)) ?_  -- msg.go:158 t12 := (Op.load 3 t11)
  refine WL.op (by decide) (R.assign rfl) ?_  -- msg.go:158 t4 := (Op.assign t12)
  refine WL.op (by decide) (R.assign rfl) ?_  -- msg.go:158 t5 := (Op.assign c(Value.int IntKind.i64 0))
  refine WL.op (by decide) (R.assign rfl) ?_  -- msg.go:158 t6 := (Op.assign c(Value.int IntKind.i64 0))
  refine WL.next ?_
  refine CW.seq ?_
  refine CW.block ?_
  refine CW.loopK [0, 3, 4, 5, 6] (fun m l wr => (∃ (a hops size : Nat) (acc : List (List UInt8)) (r : Nat) (v : Value) (ia ih isz : Int), l = [(0, .pointer (some ⟨rb, 0, none⟩)), (3, v), (4, .int .i64 ia), (5, .int .i64 ih), (6, .int .i64 isz)] ∧ ia = (a : Int) ∧ ih = (hops : Int) ∧ isz = (size : Int) ∧ hops ≤ 16 ∧ size ≤ 254 ∧ 300 ≤ m + hops + size ∧ rdName bs m a hops size acc r = res ∧ RSt wr rb A mm c r false ∧ Chg (fun k => k = rb) w wr ∧ Src wr A mm c bs ∧ SBuf wr w.heap.size v acc ∧ (joinL acc).length ≤ size ∧ acc.length ≤ size) ∨ (∃ (r : Nat) (v1 v2 v3 v4 : Value), l = [(0, .pointer (some ⟨rb, 0, none⟩)), (3, v1), (4, v2), (5, v3), (6, v4)] ∧ RSt wr rb A mm c r true ∧ Chg (fun k => k = rb) w wr ∧ res = none)) (300) ?_ ?_
  · exact Or.inl ⟨a, 0, 0, [], a, _, _, _, _, rfl, rfl, rfl, rfl, by omega, by omega, by omega, hres, hR, Chg.refl _ _, hS, World.ownsRow_nil _ _ _ _, by simp [joinL], by simp⟩
  · rintro m l wr (⟨a, hops, size, acc, r, v, ia, ih, isz, rfl, rfl, rfl, rfl, hh, hsz, hf, hE, hR, hC, hS, hB, hjl, hal⟩ | ⟨r, v1, v2, v3, v4, rfl, hR, hC, hE⟩)
    · skip
      refine CW.seq ?_
      refine CW.rseq ?_  -- region 3
      refine WL.op (by decide) (R.move rfl) ?_  -- msg.go:159 t13 := (Op.move t0)
      refine WL.op (by decide) (R.nilCheck rfl) ?_  -- msg.go:159 t14 := (Op.nilCheck t13)
      refine WL.op (by decide) (FA100_2 rfl) ?_  -- msg.go:159 t15 := (Op.fieldAddr 100 t14 2)
      refine WL.op (by decide) (R.load Tryd.underlying4 rfl rfl (cell_at hR rfl)) ?_  -- msg.go:159 t16 := (Op.load 4 t15)
      refine WL.op (by decide) (R.not rfl) ?_
      refine WL.next ?_
      refine CW.condT rfl ?_
      refine CW.skip ?_
      refine EW.next ?_
      refine CW.block ?_
      refine CW.seq ?_
      refine CW.rseq ?_  -- region 4
      refine WL.op (by decide) (R.move rfl) ?_  -- msg.go:160 t18 := (Op.move t4)
      refine WL.op (by decide) (R.move rfl) ?_  -- msg.go:160 t19 := (Op.move t0)
      refine WL.op (by decide) (R.nilCheck rfl) ?_  -- msg.go:160 t20 := (Op.nilCheck t19)
      refine WL.op (by decide) (FA100_0 rfl) ?_  -- msg.go:160 t21 := (Op.fieldAddr 100 t20 0)
      refine WL.op (by decide) (R.load Tryd.underlying36 rfl rfl (cell_at hR rfl)) ?_  -- msg.go:160 t22 := (Op.load 36 t21)
      refine WL.op (by decide) (R.lenSlice rfl Tryd.underlying36 rfl) ?_  -- msg.go:160 t23 := (Op.call (Call.mk (Callee.builtin Builtin.len) [t22] [36]))
      refine WL.geqS (by decide) rfl rfl (fun h1 => ?_) (fun h1 => ?_)  -- msg.go:160 t24 := (Op.binOp BinOp.geq 3 t18 t23 3)
      · skip
        refine WL.next ?_
        refine CW.condT rfl ?_
        refine CW.exit ?_
        refine EW.thenExit ?_
        refine EW.inFar (by decide) ?_
        refine EW.thenExit ?_
        refine EW.inHere ?_
        refine EW.next ?_
        refine CW.rseq ?_  -- region 27
        refine WL.op (by decide) (R.move rfl) ?_  -- msg.go:194 t138 := (Op.move t0)
        refine WL.op (by decide) (R.nilCheck rfl) ?_  -- msg.go:194 t139 := (Op.nilCheck t138)
        refine WL.op (by decide) (FA100_2 rfl) ?_  -- msg.go:194 t140 := (Op.fieldAddr 100 t139 2)
        refine WL.eff rfl (OP.store1 sz4 rfl rfl rfl rfl hR (Nat.le_of_ble_eq_true rfl) rfl ?_)
        intro w2 hc2 _ hb2
        refine WL.next ?_
        refine CW.rseq ?_  -- region 28
        refine WL.op (by decide) (R.assign rfl) ?_  -- msg.go:195 t2 := (Op.assign c(Value.string (ByteArray.mk [])))
        refine WL.next ?_
        refine CW.ret ?_
        refine EW.ret1 (.inl rfl) rfl rfl ⟨_, _, _, rfl, hb2, hC.trans hc2, NameRes.none (hE ▸ rd_end (by omega))⟩
      · skip
        refine WL.next ?_
        refine CW.condF rfl ?_
        refine CW.skip ?_
        refine EW.next ?_
        refine CW.rseq ?_  -- region 5
        have hlt : a < bs.length := by omega
        obtain ⟨g, o, rfl, hcell⟩ := hS.cells (by omega)
        obtain ⟨ch, hc⟩ : ∃ c, bs[a]? = some c := ⟨bs[a], List.getElem?_eq_getElem hlt⟩
        have hch := ch.toNat_lt
        obtain ⟨f, rfl⟩ : ∃ f, m = f + 1 := ⟨m - 1, by omega⟩
        refine WL.op (by decide) (R.move rfl) ?_
        refine WL.op (by decide) (R.nilCheck rfl) ?_  -- msg.go:163 t26 := (Op.nilCheck t25)
        refine WL.op (by decide) (FA100_0 rfl) ?_  -- msg.go:163 t27 := (Op.fieldAddr 100 t26 0)
        refine WL.op (by decide) (R.load Tryd.underlying36 rfl rfl (cell_at hR rfl)) ?_  -- msg.go:163 t28 := (Op.load 36 t27)
        refine WL.op (by decide) (R.move rfl) ?_  -- msg.go:163 t29 := (Op.move t4)
        refine WL.op (by decide) (R.indexAddr1 (i := a) Tryd.underlying36 sz5 rfl rfl rfl (by omega)) ?_  -- msg.go:163 t30 := (Op.indexAddr 36 t28 t29)
        refine WL.op (by decide) (R.load Tryd.underlying5 rfl rfl (by rw [Nat.mul_one]; exact hcell a ch hc)) ?_  -- msg.go:163 t31 := (Op.load 5 t30)
        refine WL.op (by decide) (R.conv53 rfl) ?_  -- msg.go:163 t32 := (Op.convert 5 3 t31)
        refine WL.op (by decide) (R.assign rfl) ?_  -- msg.go:163 t7 := (Op.assign t32)
        refine WL.next ?_
        refine CW.block ?_
        refine CW.rseq ?_  -- region 12
        refine WL.op (by decide) (R.move rfl) ?_  -- msg.go:165 t79 := (Op.move t7)
        refine WL.eqlS (by decide) rfl rfl (fun h2 => ?_) (fun h2 => ?_)  -- msg.go:165 t80 := (Op.binOp BinOp.eql 3 t79 c(Value.int IntKind.i64 0) 3)
        · skip
          refine WL.op (by decide) (R.assign rfl) ?_  -- msg.go:165 t78 := (Op.assign t80)
          refine WL.next ?_
          refine CW.condT rfl ?_
          refine CW.seq ?_
          refine CW.rseq ?_  -- region 13
          refine WL.op (by decide) (R.move rfl) ?_  -- msg.go:166 t81 := (Op.move t5)
          refine WL.eqlS (by decide) rfl rfl (fun h3 => ?_) (fun h3 => ?_)  -- msg.go:166 t82 := (Op.binOp BinOp.eql 3 t81 c(Value.int IntKind.i64 0) 3)
          · skip
            refine WL.next ?_
            refine CW.condT rfl ?_
            refine CW.region ?_  -- region 14
            refine WL.op (by decide) (R.move rfl) ?_  -- msg.go:167 t83 := (Op.move t0)
            refine WL.op (by decide) (R.move rfl) ?_  -- msg.go:167 t84 := (Op.move t4)
            refine WL.op (by decide) (R.add rfl rfl (by omega)) ?_  -- msg.go:167 t85 := (Op.binOp BinOp.add 3 t84 c(Value.int IntKind.i64 1) 3)
            refine WL.op (by decide) (R.nilCheck rfl) ?_  -- msg.go:167 t86 := (Op.nilCheck t83)
            refine WL.op (by decide) (FA100_1 rfl) ?_  -- msg.go:167 t87 := (Op.fieldAddr 100 t86 1)
            refine WL.eff rfl (OP.store1 sz3 rfl rfl rfl rfl hR (Nat.le_of_ble_eq_true rfl) rfl ?_)
            intro w2 hc2 _ hb2
            have hR := hb2
            have hC := hC.trans hc2
            have hS := hS.kept hc2 hg
            have hB := hB.kept hc2 (fun k hk e => by have := hB.lt k hk; omega)
            refine WL.nil ?_
            refine EW.next ?_
            refine CW.rseq ?_  -- region 15
            refine WL.op (by decide) (R.move rfl) ?_  -- msg.go:169 t88 := (Op.move t0)
            refine WL.op (by decide) (R.move rfl) ?_  -- msg.go:169 t89 := (Op.move t3)
            have hz := rd_zero (bs := bs) (f := f) (hops := hops) (size := size) (acc := acc) (r := r) hc (by omega)
            obtain ⟨B, cap, rfl, hBa⟩ := hB.args
            refine WL.eff rfl (OP.call (by decide) Tryd.func53 (by kernel_rfl) (by kernel_rfl) rfl (whole_any rb _ mm c _ B cap acc _ hR hBa (by omega) (by omega)) ?_)
            rintro e w3 ⟨rfl, hR3, hc3⟩
            refine ⟨_, rfl, ?_⟩
            refine WL.op (by decide) (R.assign rfl) ?_  -- msg.go:169 t2 := (Op.assign t90)
            refine WL.next ?_
            refine CW.ret ?_
            refine EW.inRet ?_
            refine EW.inRet ?_
            refine EW.thenRet ?_
            refine EW.inRet ?_
            refine EW.thenRet ?_
            rw [hz] at hE
            refine EW.ret1 (.inl rfl) rfl rfl ⟨_, _, _, rfl, hR3, hC.trans hc3, ?_⟩
            rw [← hE]
            cases hb : namesL (joinL acc)
            · exact ⟨rfl, rfl⟩
            · have e0 : hops = 0 := by omega
              subst e0; exact ⟨rfl, rfl, rfl⟩
          · skip
            refine WL.next ?_
            refine CW.condF rfl ?_
            refine CW.skip ?_
            refine EW.next ?_
            refine CW.rseq ?_  -- region 15
            refine WL.op (by decide) (R.move rfl) ?_  -- msg.go:169 t88 := (Op.move t0)
            refine WL.op (by decide) (R.move rfl) ?_  -- msg.go:169 t89 := (Op.move t3)
            have hz := rd_zero (bs := bs) (f := f) (hops := hops) (size := size) (acc := acc) (r := r) hc (by omega)
            obtain ⟨B, cap, rfl, hBa⟩ := hB.args
            refine WL.eff rfl (OP.call (by decide) Tryd.func53 (by kernel_rfl) (by kernel_rfl) rfl (whole_any rb _ mm c _ B cap acc _ hR hBa (by omega) (by omega)) ?_)
            rintro e w3 ⟨rfl, hR3, hc3⟩
            refine ⟨_, rfl, ?_⟩
            refine WL.op (by decide) (R.assign rfl) ?_  -- msg.go:169 t2 := (Op.assign t90)
            refine WL.next ?_
            refine CW.ret ?_
            refine EW.inRet ?_
            refine EW.inRet ?_
            refine EW.thenRet ?_
            refine EW.inRet ?_
            refine EW.thenRet ?_
            rw [hz] at hE
            refine EW.ret1 (.inl rfl) rfl rfl ⟨_, _, _, rfl, hR3, hC.trans hc3, ?_⟩
            rw [← hE]
            cases hb : namesL (joinL acc)
            · exact ⟨rfl, rfl⟩
            · have e0 : ¬ hops = 0 := by omega
              rw [if_neg e0]; exact ⟨rfl, rfl, rfl⟩
        · skip
          refine WL.op (by decide) (R.assign rfl) ?_  -- msg.go:165 t78 := (Op.assign t80)
          refine WL.next ?_
          refine CW.condF rfl ?_
          refine CW.rseq ?_  -- region 16
          refine WL.op (by decide) (R.move rfl) ?_  -- msg.go:170 t92 := (Op.move t7)
          refine WL.geqS (by decide) rfl rfl (fun h4 => ?_) (fun h4 => ?_)  -- msg.go:170 t93 := (Op.binOp BinOp.geq 3 t92 c(Value.int IntKind.i64 192) 3)
          · skip
            refine WL.op (by decide) (R.assign rfl) ?_  -- msg.go:170 t91 := (Op.assign t93)
            refine WL.next ?_
            refine CW.condT rfl ?_
            refine CW.seq ?_
            refine CW.rseq ?_  -- region 17
            refine WL.op (by decide) (R.move rfl) ?_  -- msg.go:171 t94 := (Op.move t4)
            refine WL.op (by decide) (R.add rfl rfl (by omega)) ?_  -- msg.go:171 t95 := (Op.binOp BinOp.add 3 t94 c(Value.int IntKind.i64 1) 3)
            refine WL.op (by decide) (R.move rfl) ?_  -- msg.go:171 t96 := (Op.move t0)
            refine WL.op (by decide) (R.nilCheck rfl) ?_  -- msg.go:171 t97 := (Op.nilCheck t96)
            refine WL.op (by decide) (FA100_0 rfl) ?_  -- msg.go:171 t98 := (Op.fieldAddr 100 t97 0)
            refine WL.op (by decide) (R.load Tryd.underlying36 rfl rfl (cell_at hR rfl)) ?_  -- msg.go:171 t99 := (Op.load 36 t98)
            refine WL.op (by decide) (R.lenSlice rfl Tryd.underlying36 rfl) ?_  -- msg.go:171 t100 := (Op.call (Call.mk (Callee.builtin Builtin.len) [t99] [36]))
            refine WL.geqS (by decide) rfl rfl (fun h5 => ?_) (fun h5 => ?_)  -- msg.go:171 t101 := (Op.binOp BinOp.geq 3 t95 t100 3)
            · skip
              refine WL.op (by decide) (R.move rfl) ?_  -- msg.go:171 t102 := (Op.move t101)
              refine WL.pass (by decide) rfl rfl rfl ?_  -- msg.go:171 t103 := (Op.move t5) [guard 8 false]
              refine WL.pass (by decide) rfl rfl rfl ?_  -- msg.go:171 t104 := (Op.binOp BinOp.eql 3 t103 c(Value.int IntKind.i64 16) 3) [guard 8 false]
              refine WL.op (by decide) (R.pickT rfl rfl) ?_  -- msg.go:171 t105 := (Op.pick t102 c(Value.bool true) t104)
              refine WL.next ?_
              refine CW.condT rfl ?_
              refine CW.rseq ?_  -- region 18
              refine WL.op (by decide) (R.move rfl) ?_  -- msg.go:172 t106 := (Op.move t0)
              refine WL.op (by decide) (R.nilCheck rfl) ?_  -- msg.go:172 t107 := (Op.nilCheck t106)
              refine WL.op (by decide) (FA100_2 rfl) ?_  -- msg.go:172 t108 := (Op.fieldAddr 100 t107 2)
              refine WL.eff rfl (OP.store1 sz4 rfl rfl rfl rfl hR (Nat.le_of_ble_eq_true rfl) rfl ?_)
              intro w2 hc2 _ hb2
              refine WL.next ?_
              refine CW.rseq ?_  -- region 19
              refine WL.op (by decide) (R.assign rfl) ?_  -- msg.go:173 t2 := (Op.assign c(Value.string (ByteArray.mk [])))
              refine WL.next ?_
              refine CW.ret ?_
              refine EW.thenRet ?_
              refine EW.inRet ?_
              refine EW.inRet ?_
              refine EW.thenRet ?_
              refine EW.inRet ?_
              refine EW.thenRet ?_
              refine EW.ret1 (.inl rfl) rfl rfl ⟨_, _, _, rfl, hb2, hC.trans hc2, NameRes.none (hE ▸ rd_ptr_end hc (by omega) (by omega))⟩
            · skip
              refine WL.op (by decide) (R.move rfl) ?_  -- msg.go:171 t102 := (Op.move t101)
              refine WL.gop (by decide) rfl rfl rfl (R.move rfl) ?_  -- msg.go:171 t103 := (Op.move t5) [guard 8 false]
              refine WL.gsplit _ (by decide) rfl rfl rfl (R.eqlD rfl rfl) (fun h6 => ?_) (fun h6 => ?_)  -- msg.go:171 t104 := (Op.binOp BinOp.eql 3 t103 c(Value.int IntKind.i64 16) 3) [guard 8 false]
              · skip
                refine WL.op (by decide) (R.pickF rfl rfl) ?_  -- msg.go:171 t105 := (Op.pick t102 c(Value.bool true) t104)
                refine WL.next ?_
                refine CW.condT rfl ?_
                refine CW.rseq ?_  -- region 18
                refine WL.op (by decide) (R.move rfl) ?_  -- msg.go:172 t106 := (Op.move t0)
                refine WL.op (by decide) (R.nilCheck rfl) ?_  -- msg.go:172 t107 := (Op.nilCheck t106)
                refine WL.op (by decide) (FA100_2 rfl) ?_  -- msg.go:172 t108 := (Op.fieldAddr 100 t107 2)
                refine WL.eff rfl (OP.store1 sz4 rfl rfl rfl rfl hR (Nat.le_of_ble_eq_true rfl) rfl ?_)
                intro w2 hc2 _ hb2
                refine WL.next ?_
                refine CW.rseq ?_  -- region 19
                refine WL.op (by decide) (R.assign rfl) ?_  -- msg.go:173 t2 := (Op.assign c(Value.string (ByteArray.mk [])))
                refine WL.next ?_
                refine CW.ret ?_
                refine EW.thenRet ?_
                refine EW.inRet ?_
                refine EW.inRet ?_
                refine EW.thenRet ?_
                refine EW.inRet ?_
                refine EW.thenRet ?_
                refine EW.ret1 (.inl rfl) rfl rfl ⟨_, _, _, rfl, hb2, hC.trans hc2, NameRes.none (hE ▸ rd_ptr_many hc (by omega) (by omega))⟩
              · skip
                refine WL.op (by decide) (R.pickF rfl rfl) ?_  -- msg.go:171 t105 := (Op.pick t102 c(Value.bool true) t104)
                refine WL.next ?_
                refine CW.condF rfl ?_
                refine CW.skip ?_
                refine EW.next ?_
                refine CW.rseq ?_  -- region 20
                refine WL.op (by decide) (R.move rfl) ?_  -- msg.go:175 t109 := (Op.move t7)
                refine WL.op (by decide) (R.and63 rfl rfl) ?_  -- msg.go:175 t110 := (Op.binOp BinOp.and 3 t109 c(Value.int IntKind.i64 63) 3)
                refine WL.op (by decide) (R.shl rfl rfl (by omega) (by simp only [show (8 : Int).toNat = 8 from rfl, Int.reducePow]; omega)) ?_  -- msg.go:175 t111 := (Op.binOp BinOp.shl 3 t110 c(Value.int IntKind.u64 8) 42)
                refine WL.op (by decide) (R.move rfl) ?_  -- msg.go:175 t112 := (Op.move t0)
                refine WL.op (by decide) (R.nilCheck rfl) ?_  -- msg.go:175 t113 := (Op.nilCheck t112)
                refine WL.op (by decide) (FA100_0 rfl) ?_  -- msg.go:175 t114 := (Op.fieldAddr 100 t113 0)
                refine WL.op (by decide) (R.load Tryd.underlying36 rfl rfl (cell_at hR rfl)) ?_  -- msg.go:175 t115 := (Op.load 36 t114)
                refine WL.op (by decide) (R.move rfl) ?_  -- msg.go:175 t116 := (Op.move t4)
                refine WL.op (by decide) (R.add rfl rfl (by omega)) ?_  -- msg.go:175 t117 := (Op.binOp BinOp.add 3 t116 c(Value.int IntKind.i64 1) 3)
                have hlt2 : a + 1 < bs.length := by omega
                obtain ⟨c2, hcc⟩ : ∃ c, bs[a + 1]? = some c := ⟨bs[a + 1], List.getElem?_eq_getElem hlt2⟩
                have hc2l := c2.toNat_lt
                refine WL.op (by decide) (R.indexAddr1 (i := a + 1) Tryd.underlying36 sz5 rfl rfl rfl (by omega)) ?_
                refine WL.op (by decide) (R.load Tryd.underlying5 rfl rfl (by rw [Nat.mul_one]; exact hcell (a + 1) c2 hcc)) ?_  -- msg.go:175 t119 := (Op.load 5 t118)
                refine WL.op (by decide) (R.conv53 rfl) ?_  -- msg.go:175 t120 := (Op.convert 5 3 t119)
                refine WL.op (by decide) (R.or256 rfl rfl (by omega)) ?_  -- msg.go:175 t121 := (Op.binOp BinOp.or 3 t111 t120 3)
                refine WL.op (by decide) (R.assign rfl) ?_  -- msg.go:175 t8 := (Op.assign t121)
                refine WL.next ?_
                refine CW.seq ?_
                refine CW.rseq ?_  -- region 21
                refine WL.op (by decide) (R.move rfl) ?_  -- msg.go:176 t122 := (Op.move t5)
                refine WL.eqlS (by decide) rfl rfl (fun h7 => ?_) (fun h7 => ?_)  -- msg.go:176 t123 := (Op.binOp BinOp.eql 3 t122 c(Value.int IntKind.i64 0) 3)
                · skip
                  refine WL.next ?_
                  refine CW.condT rfl ?_
                  refine CW.region ?_  -- region 22
                  refine WL.op (by decide) (R.move rfl) ?_  -- msg.go:177 t124 := (Op.move t0)
                  refine WL.op (by decide) (R.move rfl) ?_  -- msg.go:177 t125 := (Op.move t4)
                  refine WL.op (by decide) (R.add rfl rfl (by omega)) ?_  -- msg.go:177 t126 := (Op.binOp BinOp.add 3 t125 c(Value.int IntKind.i64 2) 3)
                  refine WL.op (by decide) (R.nilCheck rfl) ?_  -- msg.go:177 t127 := (Op.nilCheck t124)
                  refine WL.op (by decide) (FA100_1 rfl) ?_  -- msg.go:177 t128 := (Op.fieldAddr 100 t127 1)
                  refine WL.eff rfl (OP.store1 sz3 rfl rfl rfl rfl hR (Nat.le_of_ble_eq_true rfl) rfl ?_)
                  intro w2 hc2 _ hb2
                  have hR := hb2
                  have hC := hC.trans hc2
                  have hS := hS.kept hc2 hg
                  have hB := hB.kept hc2 (fun k hk e => by have := hB.lt k hk; omega)
                  refine WL.nil ?_
                  refine EW.next ?_
                  refine CW.seq ?_
                  refine CW.rseq ?_  -- region 23
                  refine WL.op (by decide) (R.move rfl) ?_  -- msg.go:179 t129 := (Op.move t8)
                  refine WL.op (by decide) (R.move rfl) ?_  -- msg.go:179 t130 := (Op.move t4)
                  refine WL.geqS (by decide) rfl rfl (fun h8 => ?_) (fun h8 => ?_)  -- msg.go:179 t131 := (Op.binOp BinOp.geq 3 t129 t130 3)
                  · skip
                    refine WL.next ?_
                    refine CW.condT rfl ?_
                    refine CW.region ?_  -- region 24
                    refine WL.op (by decide) (R.move rfl) ?_  -- msg.go:180 t132 := (Op.move t0)
                    refine WL.op (by decide) (R.nilCheck rfl) ?_  -- msg.go:180 t133 := (Op.nilCheck t132)
                    refine WL.op (by decide) (FA100_2 rfl) ?_  -- msg.go:180 t134 := (Op.fieldAddr 100 t133 2)
                    refine WL.eff rfl (OP.store1 sz4 rfl rfl rfl rfl hR (Nat.le_of_ble_eq_true rfl) rfl ?_)
                    intro w2 hc2 _ hb2
                    refine WL.nil ?_
                    refine EW.next ?_
                    refine CW.rseq ?_  -- region 25
                    refine WL.op (by decide) (R.move rfl) ?_  -- msg.go:182 t135 := (Op.move t5)
                    refine WL.op (by decide) (R.add rfl rfl (by omega)) ?_  -- msg.go:182 t136 := (Op.binOp BinOp.add 3 t135 c(Value.int IntKind.i64 1) 3)
                    refine WL.op (by decide) (R.assign rfl) ?_  -- msg.go:182 t5 := (Op.assign t136)
                    refine WL.next ?_
                    refine CW.region ?_  -- region 26
                    refine WL.op (by decide) (R.move rfl) ?_  -- msg.go:183 t137 := (Op.move t8)
                    refine WL.op (by decide) (R.assign rfl) ?_  -- msg.go:183 t4 := (Op.assign t137)
                    refine WL.nil ?_
                    refine EW.inNormal ?_
                    refine EW.inNormal ?_
                    exact EW.roundK [0, 3, 4, 5, 6] f (by omega) (Or.inr ⟨_, _, _, _, _, rfl, hb2, hC.trans hc2, hE ▸ rd_ptr_ahead hc (by omega) hcc (by omega)⟩)
                  · skip
                    refine WL.next ?_
                    refine CW.condF rfl ?_
                    refine CW.skip ?_
                    refine EW.next ?_
                    refine CW.rseq ?_  -- region 25
                    refine WL.op (by decide) (R.move rfl) ?_  -- msg.go:182 t135 := (Op.move t5)
                    refine WL.op (by decide) (R.add rfl rfl (by omega)) ?_  -- msg.go:182 t136 := (Op.binOp BinOp.add 3 t135 c(Value.int IntKind.i64 1) 3)
                    refine WL.op (by decide) (R.assign rfl) ?_  -- msg.go:182 t5 := (Op.assign t136)
                    refine WL.next ?_
                    refine CW.region ?_  -- region 26
                    refine WL.op (by decide) (R.move rfl) ?_  -- msg.go:183 t137 := (Op.move t8)
                    refine WL.op (by decide) (R.assign rfl) ?_  -- msg.go:183 t4 := (Op.assign t137)
                    refine WL.nil ?_
                    refine EW.inNormal ?_
                    refine EW.inNormal ?_
                    rw [rd_ptr hc (by omega) hcc (by omega) (by omega), if_pos (by omega)] at hE
                    exact EW.roundK [0, 3, 4, 5, 6] f (by omega) (Or.inl ⟨_, hops + 1, size, acc, _, v, _, _, _, rfl, rfl, rfl, rfl, by omega, by omega, by omega, hE, hR, hC, hS, hB, by omega, by omega⟩)
                · skip
                  refine WL.next ?_
                  refine CW.condF rfl ?_
                  refine CW.skip ?_
                  refine EW.next ?_
                  refine CW.seq ?_
                  refine CW.rseq ?_  -- region 23
                  refine WL.op (by decide) (R.move rfl) ?_  -- msg.go:179 t129 := (Op.move t8)
                  refine WL.op (by decide) (R.move rfl) ?_  -- msg.go:179 t130 := (Op.move t4)
                  refine WL.geqS (by decide) rfl rfl (fun h9 => ?_) (fun h9 => ?_)  -- msg.go:179 t131 := (Op.binOp BinOp.geq 3 t129 t130 3)
                  · skip
                    refine WL.next ?_
                    refine CW.condT rfl ?_
                    refine CW.region ?_  -- region 24
                    refine WL.op (by decide) (R.move rfl) ?_  -- msg.go:180 t132 := (Op.move t0)
                    refine WL.op (by decide) (R.nilCheck rfl) ?_  -- msg.go:180 t133 := (Op.nilCheck t132)
                    refine WL.op (by decide) (FA100_2 rfl) ?_  -- msg.go:180 t134 := (Op.fieldAddr 100 t133 2)
                    refine WL.eff rfl (OP.store1 sz4 rfl rfl rfl rfl hR (Nat.le_of_ble_eq_true rfl) rfl ?_)
                    intro w2 hc2 _ hb2
                    refine WL.nil ?_
                    refine EW.next ?_
                    refine CW.rseq ?_  -- region 25
                    refine WL.op (by decide) (R.move rfl) ?_  -- msg.go:182 t135 := (Op.move t5)
                    refine WL.op (by decide) (R.add rfl rfl (by omega)) ?_  -- msg.go:182 t136 := (Op.binOp BinOp.add 3 t135 c(Value.int IntKind.i64 1) 3)
                    refine WL.op (by decide) (R.assign rfl) ?_  -- msg.go:182 t5 := (Op.assign t136)
                    refine WL.next ?_
                    refine CW.region ?_  -- region 26
                    refine WL.op (by decide) (R.move rfl) ?_  -- msg.go:183 t137 := (Op.move t8)
                    refine WL.op (by decide) (R.assign rfl) ?_  -- msg.go:183 t4 := (Op.assign t137)
                    refine WL.nil ?_
                    refine EW.inNormal ?_
                    refine EW.inNormal ?_
                    exact EW.roundK [0, 3, 4, 5, 6] f (by omega) (Or.inr ⟨_, _, _, _, _, rfl, hb2, hC.trans hc2, hE ▸ rd_ptr_ahead hc (by omega) hcc (by omega)⟩)
                  · skip
                    refine WL.next ?_
                    refine CW.condF rfl ?_
                    refine CW.skip ?_
                    refine EW.next ?_
                    refine CW.rseq ?_  -- region 25
                    refine WL.op (by decide) (R.move rfl) ?_  -- msg.go:182 t135 := (Op.move t5)
                    refine WL.op (by decide) (R.add rfl rfl (by omega)) ?_  -- msg.go:182 t136 := (Op.binOp BinOp.add 3 t135 c(Value.int IntKind.i64 1) 3)
                    refine WL.op (by decide) (R.assign rfl) ?_  -- msg.go:182 t5 := (Op.assign t136)
                    refine WL.next ?_
                    refine CW.region ?_  -- region 26
                    refine WL.op (by decide) (R.move rfl) ?_  -- msg.go:183 t137 := (Op.move t8)
                    refine WL.op (by decide) (R.assign rfl) ?_  -- msg.go:183 t4 := (Op.assign t137)
                    refine WL.nil ?_
                    refine EW.inNormal ?_
                    refine EW.inNormal ?_
                    rw [rd_ptr hc (by omega) hcc (by omega) (by omega), if_neg (by omega)] at hE
                    exact EW.roundK [0, 3, 4, 5, 6] f (by omega) (Or.inl ⟨_, hops + 1, size, acc, _, v, _, _, _, rfl, rfl, rfl, rfl, by omega, by omega, by omega, hE, hR, hC, hS, hB, by omega, by omega⟩)
          · skip
            refine WL.op (by decide) (R.assign rfl) ?_  -- msg.go:170 t91 := (Op.assign t93)
            refine WL.next ?_
            refine CW.condF rfl ?_
            refine CW.rseq ?_  -- region 6
            refine WL.op (by decide) (R.move rfl) ?_  -- msg.go:185 t33 := (Op.move t6)
            refine WL.op (by decide) (R.move rfl) ?_  -- msg.go:185 t34 := (Op.move t7)
            refine WL.op (by decide) (R.add rfl rfl (by omega)) ?_  -- msg.go:185 t35 := (Op.binOp BinOp.add 3 t34 c(Value.int IntKind.i64 1) 3)
            refine WL.op (by decide) (R.add rfl rfl (by omega)) ?_  -- msg.go:185 t36 := (Op.binOp BinOp.add 3 t33 t35 3)
            refine WL.op (by decide) (R.assign rfl) ?_  -- msg.go:185 t6 := (Op.assign t36)
            refine WL.next ?_
            refine CW.seq ?_
            refine CW.rseq ?_  -- region 7
            refine WL.op (by decide) (R.move rfl) ?_  -- msg.go:186 t37 := (Op.move t7)
            refine WL.gtrS (by decide) rfl rfl (fun h10 => ?_) (fun h10 => ?_)  -- msg.go:186 t38 := (Op.binOp BinOp.gtr 3 t37 c(Value.int IntKind.i64 63) 3)
            · skip
              refine WL.op (by decide) (R.move rfl) ?_  -- msg.go:186 t39 := (Op.move t38)
              refine WL.pass (by decide) rfl rfl rfl ?_  -- msg.go:186 t40 := (Op.move t4) [guard 2 false]
              refine WL.pass (by decide) rfl rfl rfl ?_  -- msg.go:186 t41 := (Op.binOp BinOp.add 3 t40 c(Value.int IntKind.i64 1) 3) [guard 2 false]
              refine WL.pass (by decide) rfl rfl rfl ?_  -- msg.go:186 t42 := (Op.move t7) [guard 2 false]
              refine WL.pass (by decide) rfl rfl rfl ?_  -- msg.go:186 t43 := (Op.binOp BinOp.add 3 t41 t42 3) [guard 2 false]
              refine WL.pass (by decide) rfl rfl rfl ?_  -- msg.go:186 t44 := (Op.move t0) [guard 2 false]
              refine WL.pass (by decide) rfl rfl rfl ?_  -- msg.go:186 t45 := (Op.nilCheck t44) [guard 2 false]
              refine WL.pass (by decide) rfl rfl rfl ?_  -- msg.go:186 t46 := (Op.fieldAddr 100 t45 0) [guard 2 false]
              refine WL.pass (by decide) rfl rfl rfl ?_  -- msg.go:186 t47 := (Op.load 36 t46) [guard 2 false]
              refine WL.pass (by decide) rfl rfl rfl ?_  -- msg.go:186 t48 := (Op.call (Call.mk (Callee.builtin Builtin.len) [t47] [36])) [guard 2 false]
              refine WL.pass (by decide) rfl rfl rfl ?_  -- msg.go:186 t49 := (Op.binOp BinOp.gtr 3 t43 t48 3) [guard 2 false]
              refine WL.op (by decide) (R.pickT rfl rfl) ?_  -- msg.go:186 t50 := (Op.pick t39 c(Value.bool true) t49)
              refine WL.op (by decide) (R.move rfl) ?_  -- msg.go:186 t51 := (Op.move t50)
              refine WL.pass (by decide) rfl rfl rfl ?_  -- msg.go:186 t52 := (Op.move t6) [guard 14 false]
              refine WL.pass (by decide) rfl rfl rfl ?_  -- msg.go:186 t53 := (Op.binOp BinOp.gtr 3 t52 c(Value.int IntKind.i64 254) 3) [guard 14 false]
              refine WL.op (by decide) (R.pickT rfl rfl) ?_  -- msg.go:186 t54 := (Op.pick t51 c(Value.bool true) t53)
              refine WL.next ?_
              refine CW.condT rfl ?_
              refine CW.rseq ?_  -- region 8
              refine WL.op (by decide) (R.move rfl) ?_  -- msg.go:187 t55 := (Op.move t0)
              refine WL.op (by decide) (R.nilCheck rfl) ?_  -- msg.go:187 t56 := (Op.nilCheck t55)
              refine WL.op (by decide) (FA100_2 rfl) ?_  -- msg.go:187 t57 := (Op.fieldAddr 100 t56 2)
              refine WL.eff rfl (OP.store1 sz4 rfl rfl rfl rfl hR (Nat.le_of_ble_eq_true rfl) rfl ?_)
              intro w2 hc2 _ hb2
              refine WL.next ?_
              refine CW.rseq ?_  -- region 9
              refine WL.op (by decide) (R.assign rfl) ?_  -- msg.go:188 t2 := (Op.assign c(Value.string (ByteArray.mk [])))
              refine WL.next ?_
              refine CW.ret ?_
              refine EW.thenRet ?_
              refine EW.inRet ?_
              refine EW.inRet ?_
              refine EW.thenRet ?_
              refine EW.inRet ?_
              refine EW.thenRet ?_
              refine EW.ret1 (.inl rfl) rfl rfl ⟨_, _, _, rfl, hb2, hC.trans hc2, NameRes.none (hE ▸ rd_lab_bad hc (by omega) (by omega) (by omega))⟩
            · skip
              refine WL.op (by decide) (R.move rfl) ?_  -- msg.go:186 t39 := (Op.move t38)
              refine WL.gop (by decide) rfl rfl rfl (R.move rfl) ?_  -- msg.go:186 t40 := (Op.move t4) [guard 2 false]
              refine WL.gop (by decide) rfl rfl rfl (R.add rfl rfl (by omega)) ?_  -- msg.go:186 t41 := (Op.binOp BinOp.add 3 t40 c(Value.int IntKind.i64 1) 3) [guard 2 false]
              refine WL.gop (by decide) rfl rfl rfl (R.move rfl) ?_  -- msg.go:186 t42 := (Op.move t7) [guard 2 false]
              refine WL.gop (by decide) rfl rfl rfl (R.add rfl rfl (by omega)) ?_  -- msg.go:186 t43 := (Op.binOp BinOp.add 3 t41 t42 3) [guard 2 false]
              refine WL.gop (by decide) rfl rfl rfl (R.move rfl) ?_  -- msg.go:186 t44 := (Op.move t0) [guard 2 false]
              refine WL.gop (by decide) rfl rfl rfl (R.nilCheck rfl) ?_  -- msg.go:186 t45 := (Op.nilCheck t44) [guard 2 false]
              refine WL.gop (by decide) rfl rfl rfl (FA100_0 rfl) ?_  -- msg.go:186 t46 := (Op.fieldAddr 100 t45 0) [guard 2 false]
              refine WL.gop (by decide) rfl rfl rfl (R.load Tryd.underlying36 rfl rfl (cell_at hR rfl)) ?_  -- msg.go:186 t47 := (Op.load 36 t46) [guard 2 false]
              refine WL.gop (by decide) rfl rfl rfl (R.lenSlice rfl Tryd.underlying36 rfl) ?_  -- msg.go:186 t48 := (Op.call (Call.mk (Callee.builtin Builtin.len) [t47] [36])) [guard 2 false]
              refine WL.gsplit _ (by decide) rfl rfl rfl (R.gtrD rfl rfl) (fun h11 => ?_) (fun h11 => ?_)  -- msg.go:186 t49 := (Op.binOp BinOp.gtr 3 t43 t48 3) [guard 2 false]
              · skip
                refine WL.op (by decide) (R.pickF rfl rfl) ?_  -- msg.go:186 t50 := (Op.pick t39 c(Value.bool true) t49)
                refine WL.op (by decide) (R.move rfl) ?_  -- msg.go:186 t51 := (Op.move t50)
                refine WL.pass (by decide) rfl rfl rfl ?_  -- msg.go:186 t52 := (Op.move t6) [guard 14 false]
                refine WL.pass (by decide) rfl rfl rfl ?_  -- msg.go:186 t53 := (Op.binOp BinOp.gtr 3 t52 c(Value.int IntKind.i64 254) 3) [guard 14 false]
                refine WL.op (by decide) (R.pickT rfl rfl) ?_  -- msg.go:186 t54 := (Op.pick t51 c(Value.bool true) t53)
                refine WL.next ?_
                refine CW.condT rfl ?_
                refine CW.rseq ?_  -- region 8
                refine WL.op (by decide) (R.move rfl) ?_  -- msg.go:187 t55 := (Op.move t0)
                refine WL.op (by decide) (R.nilCheck rfl) ?_  -- msg.go:187 t56 := (Op.nilCheck t55)
                refine WL.op (by decide) (FA100_2 rfl) ?_  -- msg.go:187 t57 := (Op.fieldAddr 100 t56 2)
                refine WL.eff rfl (OP.store1 sz4 rfl rfl rfl rfl hR (Nat.le_of_ble_eq_true rfl) rfl ?_)
                intro w2 hc2 _ hb2
                refine WL.next ?_
                refine CW.rseq ?_  -- region 9
                refine WL.op (by decide) (R.assign rfl) ?_  -- msg.go:188 t2 := (Op.assign c(Value.string (ByteArray.mk [])))
                refine WL.next ?_
                refine CW.ret ?_
                refine EW.thenRet ?_
                refine EW.inRet ?_
                refine EW.inRet ?_
                refine EW.thenRet ?_
                refine EW.inRet ?_
                refine EW.thenRet ?_
                refine EW.ret1 (.inl rfl) rfl rfl ⟨_, _, _, rfl, hb2, hC.trans hc2, NameRes.none (hE ▸ rd_lab_bad hc (by omega) (by omega) (by omega))⟩
              · skip
                refine WL.op (by decide) (R.pickF rfl rfl) ?_  -- msg.go:186 t50 := (Op.pick t39 c(Value.bool true) t49)
                refine WL.op (by decide) (R.move rfl) ?_  -- msg.go:186 t51 := (Op.move t50)
                refine WL.gop (by decide) rfl rfl rfl (R.move rfl) ?_  -- msg.go:186 t52 := (Op.move t6) [guard 14 false]
                refine WL.gsplit _ (by decide) rfl rfl rfl (R.gtrD rfl rfl) (fun h12 => ?_) (fun h12 => ?_)  -- msg.go:186 t53 := (Op.binOp BinOp.gtr 3 t52 c(Value.int IntKind.i64 254) 3) [guard 14 false]
                · skip
                  refine WL.op (by decide) (R.pickF rfl rfl) ?_  -- msg.go:186 t54 := (Op.pick t51 c(Value.bool true) t53)
                  refine WL.next ?_
                  refine CW.condT rfl ?_
                  refine CW.rseq ?_  -- region 8
                  refine WL.op (by decide) (R.move rfl) ?_  -- msg.go:187 t55 := (Op.move t0)
                  refine WL.op (by decide) (R.nilCheck rfl) ?_  -- msg.go:187 t56 := (Op.nilCheck t55)
                  refine WL.op (by decide) (FA100_2 rfl) ?_  -- msg.go:187 t57 := (Op.fieldAddr 100 t56 2)
                  refine WL.eff rfl (OP.store1 sz4 rfl rfl rfl rfl hR (Nat.le_of_ble_eq_true rfl) rfl ?_)
                  intro w2 hc2 _ hb2
                  refine WL.next ?_
                  refine CW.rseq ?_  -- region 9
                  refine WL.op (by decide) (R.assign rfl) ?_  -- msg.go:188 t2 := (Op.assign c(Value.string (ByteArray.mk [])))
                  refine WL.next ?_
                  refine CW.ret ?_
                  refine EW.thenRet ?_
                  refine EW.inRet ?_
                  refine EW.inRet ?_
                  refine EW.thenRet ?_
                  refine EW.inRet ?_
                  refine EW.thenRet ?_
                  refine EW.ret1 (.inl rfl) rfl rfl ⟨_, _, _, rfl, hb2, hC.trans hc2, NameRes.none (hE ▸ rd_lab_bad hc (by omega) (by omega) (by omega))⟩
                · skip
                  refine WL.op (by decide) (R.pickF rfl rfl) ?_  -- msg.go:186 t54 := (Op.pick t51 c(Value.bool true) t53)
                  refine WL.next ?_
                  refine CW.condF rfl ?_
                  refine CW.skip ?_
                  refine EW.next ?_
                  refine CW.rseq ?_  -- region 10
                  refine WL.op (by decide) (R.move rfl) ?_  -- msg.go:190 t58 := (Op.move t3)
                  refine WL.op (by decide) (R.move rfl) ?_  -- msg.go:190 t59 := (Op.move t0)
                  refine WL.op (by decide) (R.nilCheck rfl) ?_  -- msg.go:190 t60 := (Op.nilCheck t59)
                  refine WL.op (by decide) (FA100_0 rfl) ?_  -- msg.go:190 t61 := (Op.fieldAddr 100 t60 0)
                  refine WL.op (by decide) (R.load Tryd.underlying36 rfl rfl (cell_at hR rfl)) ?_  -- msg.go:190 t62 := (Op.load 36 t61)
                  refine WL.op (by decide) (R.move rfl) ?_  -- msg.go:190 t63 := (Op.move t4)
                  refine WL.op (by decide) (R.add rfl rfl (by omega)) ?_  -- msg.go:190 t64 := (Op.binOp BinOp.add 3 t63 c(Value.int IntKind.i64 1) 3)
                  refine WL.op (by decide) (R.move rfl) ?_  -- msg.go:190 t65 := (Op.move t4)
                  refine WL.op (by decide) (R.add rfl rfl (by omega)) ?_  -- msg.go:190 t66 := (Op.binOp BinOp.add 3 t65 c(Value.int IntKind.i64 1) 3)
                  refine WL.op (by decide) (R.move rfl) ?_  -- msg.go:190 t67 := (Op.move t7)
                  refine WL.op (by decide) (R.add rfl rfl (by omega)) ?_  -- msg.go:190 t68 := (Op.binOp BinOp.add 3 t66 t67 3)
                  refine WL.op (by decide) (R.sliceIn Tryd.underlying36 sz5 rfl rfl rfl (lo := a + 1) (hi := a + 1 + ch.toNat) (by omega) (by omega) (by omega) (by omega)) ?_  -- msg.go:190 t69 := (Op.slice 36 t62 (some t64) (some t68) none)
                  refine WL.op (by decide) (R.strOf (s := (bs.drop (a + 1)).take ch.toNat) rfl (by rw [List.length_take, List.length_drop]; omega) (fun j b hj => by rw [List.getElem?_take] at hj; split at hj <;> first | (rw [List.getElem?_drop] at hj; rw [Nat.add_assoc]; exact hcell (a + 1 + j) b hj) | cases hj)) ?_  -- msg.go:190 t70 := (Op.convert 36 9 t69)
                  refine WL.eff rfl (OP.call (by decide) Tryd.func38 (by kernel_rfl) (by kernel_rfl) rfl (lower_any _ _ (by rw [List.length_take]; omega)) ?_)
                  rintro e w1 ⟨rfl, hc1⟩
                  refine ⟨_, rfl, ?_⟩
                  refine WL.eff rfl (OP.buildSliceS (by decide) rfl ?_)
                  intro w2 hc2 hs2 hb2
                  have hB2 := (hB.kept hc1 (fun _ _ h => h)).kept hc2 (fun _ _ h => h)
                  refine WL.eff rfl (OP.appendS (by decide) rfl rfl hB2 hb2 (by omega) (by have := hC.size; have := hc1.size; omega) ?_)
                  intro v2 w3 hB3 hM3
                  have hcm : Chg (fun k => w.heap.size ≤ k) wr w3 := ((hc1.trans hc2).mono (fun _ _ h => h.elim)).then (Chg.moved hM3) (fun k hk e => (hB2.lt k e.symm).1)
                  have hR3 : RSt w3 rb _ mm c r false := hcm.at hR (by omega)
                  have hC3 : Chg (fun k => k = rb) w w3 := hC.then hcm (fun k hk e => by omega)
                  have hS3 := hS.kept hcm (fun g o hA e => by have := hgl (by omega) g o hA; omega)
                  refine WL.op (by decide) (R.assign rfl) ?_  -- msg.go:190 t3 := (Op.assign t73)
                  refine WL.next ?_
                  refine CW.region ?_  -- region 11
                  refine WL.op (by decide) (R.move rfl) ?_  -- msg.go:191 t74 := (Op.move t4)
                  refine WL.op (by decide) (R.move rfl) ?_  -- msg.go:191 t75 := (Op.move t7)
                  refine WL.op (by decide) (R.add rfl rfl (by omega)) ?_  -- msg.go:191 t76 := (Op.binOp BinOp.add 3 c(Value.int IntKind.i64 1) t75 3)
                  refine WL.op (by decide) (R.add rfl rfl (by omega)) ?_  -- msg.go:191 t77 := (Op.binOp BinOp.add 3 t74 t76 3)
                  refine WL.op (by decide) (R.assign rfl) ?_  -- msg.go:191 t4 := (Op.assign t77)
                  refine WL.nil ?_
                  refine EW.inNormal ?_
                  refine EW.inNormal ?_
                  rw [rd_lab hc (by omega) (by omega) (by omega)] at hE
                  have hjl := joinL_snoc_length acc (lower ((bs.drop (a + 1)).take ch.toNat))
                  rw [lower_length] at hjl
                  have htl : ((bs.drop (a + 1)).take ch.toNat).length ≤ ch.toNat := List.length_take_le _ _
                  exact EW.roundK [0, 3, 4, 5, 6] f (by omega) (Or.inl ⟨_, hops, _, _, r, v2, _, _, _, rfl, by omega, rfl, by omega, by omega, by omega, by omega, hE, hR3, hC3, hS3, hB3, by omega, by simp; omega⟩)
    · skip
      refine CW.seq ?_
      refine CW.rseq ?_  -- region 3
      refine WL.op (by decide) (R.move rfl) ?_  -- msg.go:159 t13 := (Op.move t0)
      refine WL.op (by decide) (R.nilCheck rfl) ?_  -- msg.go:159 t14 := (Op.nilCheck t13)
      refine WL.op (by decide) (FA100_2 rfl) ?_  -- msg.go:159 t15 := (Op.fieldAddr 100 t14 2)
      refine WL.op (by decide) (R.load Tryd.underlying4 rfl rfl (cell_at hR rfl)) ?_  -- msg.go:159 t16 := (Op.load 4 t15)
      refine WL.op (by decide) (R.not rfl) ?_
      refine WL.next ?_
      refine CW.condF rfl ?_
      refine CW.exit ?_
      refine EW.thenExit ?_
      refine EW.thenExit ?_
      refine EW.inHere ?_
      refine EW.next ?_
      refine CW.rseq ?_  -- region 27
      refine WL.op (by decide) (R.move rfl) ?_  -- msg.go:194 t138 := (Op.move t0)
      refine WL.op (by decide) (R.nilCheck rfl) ?_  -- msg.go:194 t139 := (Op.nilCheck t138)
      refine WL.op (by decide) (FA100_2 rfl) ?_  -- msg.go:194 t140 := (Op.fieldAddr 100 t139 2)
      refine WL.eff rfl (OP.store1 sz4 rfl rfl rfl rfl hR (Nat.le_of_ble_eq_true rfl) rfl ?_)
      intro w2 hc2 _ hb2
      refine WL.next ?_
      refine CW.rseq ?_  -- region 28
      refine WL.op (by decide) (R.assign rfl) ?_  -- msg.go:195 t2 := (Op.assign c(Value.string (ByteArray.mk [])))
      refine WL.next ?_
      refine CW.ret ?_
      refine EW.ret1 (.inl rfl) rfl rfl ⟨_, _, _, rfl, hb2, hC.trans hc2, NameRes.none hE⟩
theorem rname_bad (rb : Nat) (A : Option Addr) (mm c : Nat) (a : Nat) (w : World) (hR : RSt w rb A mm c a true) :
    Calls Tryd.prog 46 #[.pointer (some ⟨rb, 0, none⟩)] w fun e w' => e = .returned (sv []) ∧ RSt w' rb A mm c a true ∧ Chg (fun k => k = rb) w w' := by
  refine calls_cw (args := [.pointer (some ⟨rb, 0, none⟩)]) Tryd.func46 rfl rfl ?_
  show CW _ _ _ 141 [(0, .pointer (some ⟨rb, 0, none⟩))] w
  refine CW.rseq ?_  -- region 0
  refine WL.op (by decide) (R.assign rfl) ?_  -- msg.go:156 t2 := (Op.assign c(Value.string (ByteArray.mk [])))
  refine WL.next ?_
  refine CW.rseq ?_  -- region 1
  refine WL.op (by decide) (R.assign rfl) ?_  -- msg.go:157 t3 := (Op.assign c(Value.slice none 0 0))
  refine WL.next ?_
  refine CW.rseq ?_  -- region 2
  refine WL.op (by decide) (R.move rfl) ?_  -- msg.go:158 t9 := (Op.move t0)
  refine WL.op (by decide) (R.nilCheck rfl) ?_  -- msg.go:158 t10 := (Op.nilCheck t9)
  refine WL.op (by decide) (FA100_1 rfl) ?_  -- msg.go:158 t11 := (Op.fieldAddr 100 t10 1)
  refine WL.op (by decide) (R.load Tryd.underlying3 rfl rfl (cell_at hR rfl)) ?_  -- msg.go:158 t12 := (Op.load 3 t11)
  refine WL.op (by decide) (R.assign rfl) ?_  -- msg.go:158 t4 := (Op.assign t12)
  refine WL.op (by decide) (R.assign rfl) ?_  -- msg.go:158 t5 := (Op.assign c(Value.int IntKind.i64 0))
  refine WL.op (by decide) (R.assign rfl) ?_  -- msg.go:158 t6 := (Op.assign c(Value.int IntKind.i64 0))
  refine WL.next ?_
  refine CW.seq ?_
  refine CW.block ?_
  refine CW.loopK [0, 3, 4, 5, 6] (fun m l wr => ∃ (v1 v2 v3 v4 : Value), l = [(0, .pointer (some ⟨rb, 0, none⟩)), (3, v1), (4, v2), (5, v3), (6, v4)] ∧ RSt wr rb A mm c a true ∧ Chg (fun k => k = rb) w wr) (0) ?_ ?_
  · exact ⟨_, _, _, _, rfl, hR, Chg.refl _ _⟩
  · rintro m l wr ⟨v1, v2, v3, v4, rfl, hR, hC⟩
    refine CW.seq ?_
    refine CW.rseq ?_  -- region 3
    refine WL.op (by decide) (R.move rfl) ?_  -- msg.go:159 t13 := (Op.move t0)
    refine WL.op (by decide) (R.nilCheck rfl) ?_  -- msg.go:159 t14 := (Op.nilCheck t13)
    refine WL.op (by decide) (FA100_2 rfl) ?_  -- msg.go:159 t15 := (Op.fieldAddr 100 t14 2)
    refine WL.op (by decide) (R.load Tryd.underlying4 rfl rfl (cell_at hR rfl)) ?_  -- msg.go:159 t16 := (Op.load 4 t15)
    refine WL.op (by decide) (R.not rfl) ?_
    refine WL.next ?_
    refine CW.condF rfl ?_
    refine CW.exit ?_
    refine EW.thenExit ?_
    refine EW.thenExit ?_
    refine EW.inHere ?_
    refine EW.next ?_
    refine CW.rseq ?_  -- region 27
    refine WL.op (by decide) (R.move rfl) ?_  -- msg.go:194 t138 := (Op.move t0)
    refine WL.op (by decide) (R.nilCheck rfl) ?_  -- msg.go:194 t139 := (Op.nilCheck t138)
    refine WL.op (by decide) (FA100_2 rfl) ?_  -- msg.go:194 t140 := (Op.fieldAddr 100 t139 2)
    refine WL.eff rfl (OP.store1 sz4 rfl rfl rfl rfl hR (Nat.le_of_ble_eq_true rfl) rfl ?_)
    intro w2 hc2 _ hb2
    refine WL.next ?_
    refine CW.rseq ?_  -- region 28
    refine WL.op (by decide) (R.assign rfl) ?_  -- msg.go:195 t2 := (Op.assign c(Value.string (ByteArray.mk [])))
    refine WL.next ?_
    refine CW.ret ?_
    exact EW.ret1 (.inl rfl) rfl rfl ⟨rfl, hb2, hC.trans hc2⟩
/-- Whatever the reader's state. -/
theorem rname_any (rb : Nat) (A : Option Addr) (mm c : Nat) (bs : List UInt8) (a : Nat) (bad : Bool) (w : World) (hR : RSt w rb A mm c a bad) (hS : Src w A mm c bs) (hg : ∀ g o, A = some ⟨g, o, none⟩ → g ≠ rb) (ha : a ≤ 1099511627776) (hm : mm ≤ 1099511627776) :
    Calls Tryd.prog 46 #[.pointer (some ⟨rb, 0, none⟩)] w fun e w' => ∃ s a' bad', e = .returned (sv s) ∧ RSt w' rb A mm c a' bad' ∧ Chg (fun k => k = rb) w w' ∧ (if bad = true then NameRes none s a' bad' else NameRes (rdName bs 300 a 0 0 [] a) s a' bad') := by
  cases bad with
  | true =>
    refine (rname_bad rb A mm c a w hR).mono ?_
    rintro e w' ⟨rfl, h1, h2⟩
    exact ⟨_, _, _, rfl, h1, h2, rfl, rfl⟩
  | false =>
    refine (rname_ok rb A mm c bs a w _ hR hS hg ha hm (Array.getElem?_eq_some_iff.1 hR).1 rfl).mono ?_
    rintro e w' ⟨s, a', bad', rfl, h1, h2, h3⟩
    exact ⟨s, a', bad', rfl, h1, h2, by simpa using h3⟩
end Go.Proofs.YthcpjcgjmdfpjaaDoor
