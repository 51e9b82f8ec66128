/- (*writer).name. -/
import Derived.Test.YthcpjcgjmdfpjaaDoorWrSpec
import Derived.Test.YthcpjcgjmdfpjaaDoorPut
namespace Go.Proofs.YthcpjcgjmdfpjaaDoor
open Go Go.RowKit
set_option maxRecDepth 100000
set_option maxHeartbeats 4000000

theorem own_back {v v0 : Value} {N k : Nat} (hown : v.ownBlock = v0.ownBlock ∨ ∃ q, v.ownBlock = some q ∧ N ≤ q) (e : some k = v.ownBlock) (hk : k < N) : some k = v0.ownBlock := by
  rcases hown with h | ⟨q, h1, h2⟩
  · rw [← h]; exact e
  · rw [h1] at e; injection e with e; omega
theorem own_next {w1 w2 : World} {v v0 v2 : Value} {N : Nat} (hown : v.ownBlock = v0.ownBlock ∨ ∃ q, v.ownBlock = some q ∧ N ≤ q) (hM : Moved w1 w2 v v2) (hz : N ≤ w1.heap.size) : v2.ownBlock = v0.ownBlock ∨ ∃ q, v2.ownBlock = some q ∧ N ≤ q := by
  rcases hM.at_ with h | ⟨q, h1, h2⟩
  · rw [h]; exact hown
  · exact .inr ⟨q, h1, by omega⟩
theorem wname_any (wb mb base : Nat) (v0 : Value) (st : List UInt8 × At) (s : List UInt8) (w : World) (hW0 : WSt w wb mb base v0 st) (h1 : wb < base) (h2 : mb < base) (h3 : wb ≠ mb) (hbase : base ≤ w.heap.size) (hbl0 : st.1.length ≤ 1073741824) (hsl : s.length ≤ 1073741824) :
    Calls Tryd.prog 43 #[.pointer (some ⟨wb, 0, none⟩), sv s] w fun e w' => e = .returned (.tuple #[]) ∧ ∃ v', WSt w' wb mb base v' (wrName s st) ∧ Chg (fun k => k = wb ∨ k = mb ∨ some k = v0.ownBlock) w w' ∧ (v'.ownBlock = v0.ownBlock ∨ ∃ q, v'.ownBlock = some q ∧ w.heap.size ≤ q) := by
  obtain ⟨hW, hB, hM⟩ := hW0
  have hB0 := hB
  refine calls_cw (args := [.pointer (some ⟨wb, 0, none⟩), sv s]) Tryd.func43 rfl rfl ?_
  show CW _ _ _ 86 [(0, .pointer (some ⟨wb, 0, none⟩)), (1, sv s)] w
  refine CW.rseq ?_  -- region 0
  refine WL.op (by decide) (R.move rfl) ?_  -- msg.go:25 t9 := (Op.move t1)
  refine WL.eff rfl (OP.call (by decide) Tryd.func39 (by kernel_rfl) (by kernel_rfl) rfl (split_any s _ (by omega)) ?_)
  rintro ed w1 ⟨vl, rfl, hSB, hc1⟩
  refine ⟨_, rfl, ?_⟩
  rcases hSB.open with ⟨_, h0⟩ | ⟨gl, cap, rfl, hgl1, hgl2, hlc, hcell⟩
  · exact absurd h0 (splitL_ne s)
  have hnl := splitL_length s
  have hwl := wlen_split s
  have hW := hc1.at hW (fun h => h)
  have hB := hB.kept hc1 (fun _ _ h => h)
  have hM := hM.kept hc1 (fun h => h)
  have hC : Chg (fun k => k = wb ∨ k = mb ∨ some k = v0.ownBlock) w w1 := hc1.mono (fun _ _ h => h.elim)
  have hz := hc1.size
  refine WL.op (by decide) (R.assign rfl) ?_  -- msg.go:25 t4 := (Op.assign t10)
  refine WL.next ?_
  refine CW.seq ?_
  refine CW.rseq ?_  -- region 1
  refine WL.op (by decide) (R.move rfl) ?_  -- msg.go:26 t11 := (Op.move t4)
  refine WL.op (by decide) (R.lenSlice rfl Tryd.underlying80 rfl) ?_  -- msg.go:26 t12 := (Op.call (Call.mk (Callee.builtin Builtin.len) [t11] [80]))
  refine WL.op (by decide) (R.move rfl) ?_  -- msg.go:26 t13 := (Op.move c(Value.int IntKind.i64 0))
  refine WL.next ?_
  refine CW.block ?_
  refine CW.loopK [0, 4, 12, 13] (fun k l wr => ∃ (i : Nat) (ii : Int) (v : Value) (b : List UInt8) (at_ : At), i + k = (splitL s).length ∧ ii = (i : Int) ∧ l = [(0, .pointer (some ⟨wb, 0, none⟩)), (4, .slice (some ⟨gl, 0, none⟩) (splitL s).length cap), (12, .int .i64 (splitL s).length), (13, .int .i64 ii)] ∧ wr.heap[wb]? = some (.cells #[v, .map (some mb)] 93 (0, 0)) ∧ Buf wr base v b ∧ WMap wr mb at_ ∧ Chg (fun k => k = wb ∨ k = mb ∨ some k = v0.ownBlock) w wr ∧ (∀ (j : Nat) (x : List UInt8), (splitL s)[j]? = some x → wr.cell? ⟨gl, j, none⟩ = some (sv x)) ∧ (∀ k, v.ownBlock = some k → k ≠ gl) ∧ (v.ownBlock = v0.ownBlock ∨ ∃ q, v.ownBlock = some q ∧ w.heap.size ≤ q) ∧ gl < wr.heap.size ∧ b.length + wlen ((splitL s).drop i) ≤ st.1.length + s.length + 1 ∧ wrLabels (splitL s) st.1 st.2 = wrLabels ((splitL s).drop i) b at_) ((splitL s).length) ?_ ?_
  · exact ⟨0, _, _, _, _, by omega, rfl, rfl, hW, hB, hM, hC, hcell, fun k hk e => by have := hB0.lt k hk; omega, .inl rfl, hgl2, by simp; omega, rfl⟩
  · rintro k l wr ⟨i, ii, v, b, at_, hik, rfl, rfl, hW, hB, hM, hC, hcell, hne, hown, hgl3, hbl, hE⟩
    refine CW.rseq ?_  -- region 2
    refine WL.lssS (by decide) rfl rfl (fun h1 => ?_) (fun h1 => ?_)  -- msg.go:26 t14 := (Op.binOp BinOp.lss 3 t13 t12 3)
    · skip
      refine WL.next ?_
      refine CW.seq ?_
      refine CW.condT rfl ?_
      refine CW.skip ?_
      refine EW.next ?_
      refine CW.seq ?_
      refine CW.block ?_
      refine CW.rseq ?_  -- region 3
      have hlt : i < (splitL s).length := by omega
      obtain ⟨x, hx⟩ : ∃ x, (splitL s)[i]? = some x := ⟨(splitL s)[i], List.getElem?_eq_getElem hlt⟩
      have hxl := splitL_label hx
      have hjl := wlen_joinL ((splitL s).drop i)
      obtain ⟨ab, cb, rfl⟩ := hB.slice
      refine WL.op (by decide) (R.move rfl) ?_
      refine WL.op (by decide) (R.assign rfl) ?_  -- msg.go:26 t5 := (Op.assign t15)
      refine WL.next ?_
      refine CW.rseq ?_  -- region 4
      refine WL.op (by decide) (R.move rfl) ?_  -- msg.go:27 t16 := (Op.move t4)
      refine WL.op (by decide) (R.move rfl) ?_  -- msg.go:27 t17 := (Op.move t5)
      refine WL.op (by decide) (R.sliceLo Tryd.underlying80 sz9 rfl rfl rfl hlt hlc) ?_  -- msg.go:27 t18 := (Op.slice 80 t16 (some t17) none none)
      rw [← List.length_drop]
      refine WL.eff rfl (OP.call (by decide) Tryd.func52 (by kernel_rfl) (by kernel_rfl) rfl (join_any _ _ ((splitL s).drop i) wr (fun j q hj => ⟨gl, 0 + i, rfl, by rw [List.getElem?_drop] at hj; rw [Nat.zero_add]; exact hcell (i + j) q hj⟩) (by omega) (by rw [List.length_drop]; omega)) ?_)
      rintro ed _ ⟨rfl, rfl⟩
      refine ⟨_, rfl, ?_⟩
      refine WL.op (by decide) (R.assign rfl) ?_  -- msg.go:27 t6 := (Op.assign t19)
      refine WL.next ?_
      refine CW.seq ?_
      refine CW.rseq ?_  -- region 5
      refine WL.op (by decide) (R.move rfl) ?_  -- msg.go:28 t21 := (Op.move t0)
      refine WL.op (by decide) (R.nilCheck rfl) ?_  -- msg.go:28 t22 := (Op.nilCheck t21)
      refine WL.op (by decide) (FA93_1 rfl) ?_  -- msg.go:28 t23 := (Op.fieldAddr 93 t22 1)
      refine WL.op (by decide) (R.load Tryd.underlying91 rfl rfl (cell_at hW rfl)) ?_  -- msg.go:28 t24 := (Op.load 91 t23)
      refine WL.op (by decide) (R.move rfl) ?_  -- msg.go:28 t25 := (Op.move t6)
      refine WL.op (by decide) (R.lookup rfl rfl hM) ?_
      rcases hlk : lookA at_ (joinL ((splitL s).drop i)) with _ | p
      · skip
        refine WL.op (by decide) (R.move rfl) ?_  -- msg.go:28 t20 := (Op.move t26)
        refine WL.op (by decide) (R.extract rfl rfl) ?_  -- msg.go:28 t27 := (Op.extract t20 0)
        refine WL.op (by decide) (R.extract rfl rfl) ?_
        refine WL.op (by decide) (R.assign rfl) ?_  -- msg.go:28 t7 := (Op.assign t27)
        refine WL.op (by decide) (R.assign rfl) ?_  -- msg.go:28 t8 := (Op.assign t28)
        refine WL.next ?_
        refine CW.rseq ?_  -- region 6
        refine WL.op (by decide) (R.move rfl) ?_  -- msg.go:28 t29 := (Op.move t8)
        refine WL.next ?_
        refine CW.condF rfl ?_
        refine CW.skip ?_
        refine EW.next ?_
        refine CW.seq ?_
        refine CW.rseq ?_  -- region 8
        refine WL.op (by decide) (R.move rfl) ?_  -- msg.go:32 t40 := (Op.move t0)
        refine WL.op (by decide) (R.nilCheck rfl) ?_  -- msg.go:32 t41 := (Op.nilCheck t40)
        refine WL.op (by decide) (FA93_0 rfl) ?_  -- msg.go:32 t42 := (Op.fieldAddr 93 t41 0)
        refine WL.op (by decide) (R.load Tryd.underlying36 rfl rfl (cell_at hW rfl)) ?_  -- msg.go:32 t43 := (Op.load 36 t42)
        refine WL.op (by decide) (R.lenSlice rfl Tryd.underlying36 rfl) ?_  -- msg.go:32 t44 := (Op.call (Call.mk (Callee.builtin Builtin.len) [t43] [36]))
        by_cases hlt4 : b.length < 16384
        · skip
          refine WL.op (by decide) (R.lss rfl rfl (decide_eq_true (by omega))) ?_
          refine WL.next ?_
          refine CW.condT rfl ?_
          refine CW.draw (fun w => w.heap[wb]? = some (.cells #[.slice ab b.length cb, .map (some mb)] 93 (0, 0))) (by kernel_rfl) ?_
          have hC := hC.trans (Chg.drew _ _)
          have hM := hM.kept (Chg.drew (fun _ => False) _) (fun h => h)
          refine AH.take 0 rfl (by kernel_rfl) (by kernel_rfl) (by kernel_rfl) (fun _ _ _ _ h => h) hW (by decide) (fun w hS => R.move rfl) ?_  -- msg.go:33 t46 := (Op.move t0)
          refine AH.take 1 rfl (by kernel_rfl) (by kernel_rfl) (by kernel_rfl) (fun _ _ _ _ h => h) hW (by decide) (fun w hS => R.nilCheck rfl) ?_  -- msg.go:33 t47 := (Op.nilCheck t46)
          refine AH.take 2 rfl (by kernel_rfl) (by kernel_rfl) (by kernel_rfl) (fun _ _ _ _ h => h) hW (by decide) (fun w hS => FA93_1 rfl) ?_  -- msg.go:33 t48 := (Op.fieldAddr 93 t47 1)
          refine AH.take 3 rfl (by kernel_rfl) (by kernel_rfl) (by kernel_rfl) (fun _ _ _ _ h => h) hW (by decide) (fun w hS => R.load Tryd.underlying91 rfl rfl (cell_at hS rfl)) ?_  -- msg.go:33 t49 := (Op.load 91 t48)
          refine AH.take 4 rfl (by kernel_rfl) (by kernel_rfl) (by kernel_rfl) (fun _ _ _ _ h => h) hW (by decide) (fun w hS => R.move rfl) ?_  -- msg.go:33 t50 := (Op.move t6)
          refine AH.take 5 rfl (by kernel_rfl) (by kernel_rfl) (by kernel_rfl) (fun _ _ _ _ h => h) hW (by decide) (fun w hS => R.move rfl) ?_  -- msg.go:33 t51 := (Op.move t0)
          refine AH.take 6 rfl (by kernel_rfl) (by kernel_rfl) (by kernel_rfl) (fun _ _ _ _ h => h) hW (by decide) (fun w hS => R.nilCheck rfl) ?_  -- msg.go:33 t52 := (Op.nilCheck t51)
          refine AH.take 7 rfl (by kernel_rfl) (by kernel_rfl) (by kernel_rfl) (fun _ _ _ _ h => h) hW (by decide) (fun w hS => FA93_0 rfl) ?_  -- msg.go:33 t53 := (Op.fieldAddr 93 t52 0)
          refine AH.take 8 rfl (by kernel_rfl) (by kernel_rfl) (by kernel_rfl) (fun _ _ _ _ h => h) hW (by decide) (fun w hS => R.load Tryd.underlying36 rfl rfl (cell_at hS rfl)) ?_  -- msg.go:33 t54 := (Op.load 36 t53)
          refine AH.take 9 rfl (by kernel_rfl) (by kernel_rfl) (by kernel_rfl) (fun _ _ _ _ h => h) hW (by decide) (fun w hS => R.lenSlice rfl Tryd.underlying36 rfl) ?_  -- msg.go:33 t55 := (Op.call (Call.mk (Callee.builtin Builtin.len) [t54] [36]))
          refine AH.eff 10 (by kernel_rfl) rfl rfl (OP.mapUpdate rfl rfl rfl hM hlk hlt4 ?_)
          intro w9 hc9 hs9 hM
          have hW := hc9.at hW (fun e => by omega)
          refine ⟨hW, ?_⟩
          have hcell : ∀ (j : Nat) (x : List UInt8), (splitL s)[j]? = some x → w9.cell? ⟨gl, j, none⟩ = some (sv x) := fun j x hj => cell_chg hc9 (cell_chg (Chg.drew (fun _ => False) _) (hcell j x hj) (fun h => h)) (fun e => by omega)
          have hB := (hB.kept (Chg.drew (fun _ => False) _) (fun _ _ h => h)).kept hc9 (fun k hk e => by have := hB.lt k hk; omega)
          have hC := hC.then hc9 (fun k hk e => .inr (.inl e))
          have hz := hc9.size
          have hz2 := (Chg.drew (fun _ => False) wr).size
          refine AH.done (by kernel_rfl) ?_
          refine EW.next ?_
          refine CW.draw (fun w => w.cell? ⟨gl, i, none⟩ = some (sv x)) (by kernel_rfl) ?_
          have hC := hC.trans (Chg.drew _ _)
          have hM := hM.kept (Chg.drew (fun _ => False) _) (fun h => h)
          have hB := hB.kept (Chg.drew (fun _ => False) _) (fun _ _ h => h)
          have hz3 := (Chg.drew (fun _ => False) w9).size
          refine AH.take 0 rfl (by kernel_rfl) (by kernel_rfl) (by kernel_rfl) (fun _ _ _ _ h => h) (hcell i x hx) (by decide) (fun w hS => R.move rfl) ?_  -- msg.go:35 t56 := (Op.move t0)
          refine AH.take 1 rfl (by kernel_rfl) (by kernel_rfl) (by kernel_rfl) (fun _ _ _ _ h => h) (hcell i x hx) (by decide) (fun w hS => R.move rfl) ?_  -- msg.go:35 t57 := (Op.move t0)
          refine AH.take 2 rfl (by kernel_rfl) (by kernel_rfl) (by kernel_rfl) (fun _ _ _ _ h => h) (hcell i x hx) (by decide) (fun w hS => R.nilCheck rfl) ?_  -- msg.go:35 t58 := (Op.nilCheck t57)
          refine AH.take 3 rfl (by kernel_rfl) (by kernel_rfl) (by kernel_rfl) (fun _ _ _ _ h => h) (hcell i x hx) (by decide) (fun w hS => FA93_0 rfl) ?_  -- msg.go:35 t59 := (Op.fieldAddr 93 t58 0)
          refine AH.take 5 rfl (by kernel_rfl) (by kernel_rfl) (by kernel_rfl) (fun _ _ _ _ h => h) (hcell i x hx) (by decide) (fun w hS => R.move rfl) ?_  -- msg.go:35 t61 := (Op.move t4)
          refine AH.take 6 rfl (by kernel_rfl) (by kernel_rfl) (by kernel_rfl) (fun _ _ _ _ h => h) (hcell i x hx) (by decide) (fun w hS => R.move rfl) ?_  -- msg.go:35 t62 := (Op.move t5)
          refine AH.take 7 rfl (by kernel_rfl) (by kernel_rfl) (by kernel_rfl) (fun _ _ _ _ h => h) (hcell i x hx) (by decide) (fun w hS => R.indexAddr1 (i := i) Tryd.underlying80 sz9 rfl rfl rfl hlt) ?_  -- msg.go:35 t63 := (Op.indexAddr 80 t61 t62)
          refine AH.take 8 rfl (by kernel_rfl) (by kernel_rfl) (by kernel_rfl) (fun _ _ _ _ h => h) (hcell i x hx) (by decide) (fun w hS => R.load Tryd.underlying9 rfl rfl (by rw [Nat.mul_one, Nat.zero_add]; exact hS)) ?_  -- msg.go:35 t64 := (Op.load 9 t63)
          refine AH.take 9 rfl (by kernel_rfl) (by kernel_rfl) (by kernel_rfl) (fun _ _ _ _ h => h) (hcell i x hx) (by decide) (fun w hS => R.lenS rfl rfl) ?_  -- msg.go:35 t65 := (Op.call (Call.mk (Callee.builtin Builtin.len) [t64] [9]))
          refine AH.take 10 rfl (by kernel_rfl) (by kernel_rfl) (by kernel_rfl) (fun _ _ _ _ h => h) (hcell i x hx) (by decide) (fun w hS => R.conv35 rfl) ?_  -- msg.go:35 t66 := (Op.convert 3 5 t65)
          refine AH.take 13 rfl (by kernel_rfl) (by kernel_rfl) (by kernel_rfl) (fun _ _ _ _ h => h) (hcell i x hx) (by decide) (fun w hS => R.move rfl) ?_  -- msg.go:35 t69 := (Op.move t4)
          refine AH.take 14 rfl (by kernel_rfl) (by kernel_rfl) (by kernel_rfl) (fun _ _ _ _ h => h) (hcell i x hx) (by decide) (fun w hS => R.move rfl) ?_  -- msg.go:35 t70 := (Op.move t5)
          refine AH.take 15 rfl (by kernel_rfl) (by kernel_rfl) (by kernel_rfl) (fun _ _ _ _ h => h) (hcell i x hx) (by decide) (fun w hS => R.indexAddr1 (i := i) Tryd.underlying80 sz9 rfl rfl rfl hlt) ?_  -- msg.go:35 t71 := (Op.indexAddr 80 t69 t70)
          refine AH.take 16 rfl (by kernel_rfl) (by kernel_rfl) (by kernel_rfl) (fun _ _ _ _ h => h) (hcell i x hx) (by decide) (fun w hS => R.load Tryd.underlying9 rfl rfl (by rw [Nat.mul_one, Nat.zero_add]; exact hS)) ?_  -- msg.go:35 t72 := (Op.load 9 t71)
          refine AH.either 4 11 (by kernel_rfl) rfl rfl rfl rfl ?_ ?_
          · skip
            refine (OP.val (by decide) (R.load Tryd.underlying36 rfl rfl (cell_at hW rfl)) ?_)
            refine ⟨hcell i x hx, ?_⟩
            refine AH.eff 11 (by kernel_rfl) rfl rfl (OP.buildSlice1 (by decide) rfl ?_)
            intro w11 hc11 hs11 hb11
            have hcell : ∀ (j : Nat) (x : List UInt8), (splitL s)[j]? = some x → w11.cell? ⟨gl, j, none⟩ = some (sv x) := fun j x hj => cell_chg hc11 (hcell j x hj) (fun e => by omega)
            have hz := hc11.size
            have hW := hc11.at hW (fun h => h)
            have hM := hM.kept hc11 (fun h => h)
            have hB := hB.kept hc11 (fun _ _ h => h)
            have hC := hC.then hc11 (fun k hk e => e.elim)
            refine ⟨hcell i x hx, ?_⟩
            refine AH.eff 12 (by kernel_rfl) rfl rfl (OP.appendByte (by decide) rfl rfl hB hb11 (by omega) (by omega) ?_)
            intro v2 w12 hB2 hMv
            have hcm := Chg.moved hMv
            have hW := hcm.at hW (fun e => by have := hB.lt _ e.symm; omega)
            have hM := hM.kept hcm (fun e => by have := hB.lt _ e.symm; omega)
            have hcell : ∀ (j : Nat) (x : List UInt8), (splitL s)[j]? = some x → w12.cell? ⟨gl, j, none⟩ = some (sv x) := fun j x hj => cell_chg hcm (hcell j x hj) (fun e => hne _ e.symm rfl)
            have hC := hC.then hcm (fun k hk e => .inr (.inr (own_back hown e hk)))
            have hown := own_next hown hMv (by omega)
            have hz := hcm.size
            have hne : ∀ k, v2.ownBlock = some k → k ≠ gl := fun k hk e => by
              rcases hMv.at_ with h | ⟨q, h1, h2⟩
              · exact hne k (h ▸ hk) e
              · rw [h1] at hk; injection hk with hk; omega
            have hB := hB2
            clear hB2 hMv
            obtain ⟨ab, cb, rfl⟩ := hB.slice
            refine ⟨hcell i x hx, ?_⟩
            refine AH.eff 17 (by kernel_rfl) rfl rfl (OP.appendStr (by decide) rfl rfl hB (by simp; omega) (by omega) ?_)
            intro v2 w17 hB2 hMv
            have hcm := Chg.moved hMv
            have hW := hcm.at hW (fun e => by have := hB.lt _ e.symm; omega)
            have hM := hM.kept hcm (fun e => by have := hB.lt _ e.symm; omega)
            have hcell : ∀ (j : Nat) (x : List UInt8), (splitL s)[j]? = some x → w17.cell? ⟨gl, j, none⟩ = some (sv x) := fun j x hj => cell_chg hcm (hcell j x hj) (fun e => hne _ e.symm rfl)
            have hC := hC.then hcm (fun k hk e => .inr (.inr (own_back hown e hk)))
            have hown := own_next hown hMv (by omega)
            have hz := hcm.size
            have hne : ∀ k, v2.ownBlock = some k → k ≠ gl := fun k hk e => by
              rcases hMv.at_ with h | ⟨q, h1, h2⟩
              · exact hne k (h ▸ hk) e
              · rw [h1] at hk; injection hk with hk; omega
            have hB := hB2
            clear hB2 hMv
            obtain ⟨ab, cb, rfl⟩ := hB.slice
            refine ⟨hcell i x hx, ?_⟩
            refine AH.eff 18 (by kernel_rfl) rfl rfl (OP.val (by decide) (R.nilCheck rfl) ?_)
            refine ⟨hcell i x hx, ?_⟩
            refine AH.eff 19 (by kernel_rfl) rfl rfl (OP.val (by decide) (FA93_0 rfl) ?_)
            refine ⟨hcell i x hx, ?_⟩
            refine AH.eff 20 (by kernel_rfl) rfl rfl (OP.store1 sz36 rfl rfl rfl rfl hW (Nat.le_of_ble_eq_true rfl) rfl ?_)
            intro w20 hc20 hs20 hWn
            have hcell : ∀ (j : Nat) (x : List UInt8), (splitL s)[j]? = some x → w20.cell? ⟨gl, j, none⟩ = some (sv x) := fun j x hj => cell_chg hc20 (hcell j x hj) (fun e => by omega)
            have hz := hc20.size
            have hW : w20.heap[wb]? = some (.cells #[.slice ab (b ++ [byteOf (x.length : Nat)] ++ x).length cb, .map (some mb)] 93 (0, 0)) := hWn
            have hM := hM.kept hc20 (fun e => by omega)
            have hB := hB.kept hc20 (fun k hk e => by have := hB.lt k hk; omega)
            have hC := hC.then hc20 (fun k hk e => .inl e)
            refine ⟨hcell i x hx, ?_⟩
            refine AH.done (by kernel_rfl) ?_
            refine EW.inNormal ?_
            refine EW.next ?_
            refine CW.region ?_  -- region 11
            refine WL.op (by decide) (R.add rfl rfl (by omega)) ?_  -- msg.go:26 t76 := (Op.binOp BinOp.add 3 t13 c(Value.int IntKind.i64 1) 3)
            refine WL.op (by decide) (R.move rfl) ?_  -- msg.go:26 t13 := (Op.move t76)
            refine WL.nil ?_
            rw [wr_drop hx, hlk] at hE
            simp only [if_pos hlt4] at hE
            exact EW.roundK [0, 4, 12, 13] (k - 1) (by omega) ⟨i + 1, _, _, _, _, by omega, by omega, rfl, hW, hB, hM, hC, hcell, hne, hown, by omega, by have := wlen_drop hx; simp; omega, hE⟩
          · skip
            refine (OP.buildSlice1 (by decide) rfl ?_)
            intro w11 hc11 hs11 hb11
            have hcell : ∀ (j : Nat) (x : List UInt8), (splitL s)[j]? = some x → w11.cell? ⟨gl, j, none⟩ = some (sv x) := fun j x hj => cell_chg hc11 (hcell j x hj) (fun e => by omega)
            have hz := hc11.size
            have hW := hc11.at hW (fun h => h)
            have hM := hM.kept hc11 (fun h => h)
            have hB := hB.kept hc11 (fun _ _ h => h)
            have hC := hC.then hc11 (fun k hk e => e.elim)
            refine ⟨hcell i x hx, ?_⟩
            refine AH.eff 4 (by kernel_rfl) rfl rfl (OP.val (by decide) (R.load Tryd.underlying36 rfl rfl (cell_at hW rfl)) ?_)
            refine ⟨hcell i x hx, ?_⟩
            refine AH.eff 12 (by kernel_rfl) rfl rfl (OP.appendByte (by decide) rfl rfl hB hb11 (by omega) (by omega) ?_)
            intro v2 w12 hB2 hMv
            have hcm := Chg.moved hMv
            have hW := hcm.at hW (fun e => by have := hB.lt _ e.symm; omega)
            have hM := hM.kept hcm (fun e => by have := hB.lt _ e.symm; omega)
            have hcell : ∀ (j : Nat) (x : List UInt8), (splitL s)[j]? = some x → w12.cell? ⟨gl, j, none⟩ = some (sv x) := fun j x hj => cell_chg hcm (hcell j x hj) (fun e => hne _ e.symm rfl)
            have hC := hC.then hcm (fun k hk e => .inr (.inr (own_back hown e hk)))
            have hown := own_next hown hMv (by omega)
            have hz := hcm.size
            have hne : ∀ k, v2.ownBlock = some k → k ≠ gl := fun k hk e => by
              rcases hMv.at_ with h | ⟨q, h1, h2⟩
              · exact hne k (h ▸ hk) e
              · rw [h1] at hk; injection hk with hk; omega
            have hB := hB2
            clear hB2 hMv
            obtain ⟨ab, cb, rfl⟩ := hB.slice
            refine ⟨hcell i x hx, ?_⟩
            refine AH.eff 17 (by kernel_rfl) rfl rfl (OP.appendStr (by decide) rfl rfl hB (by simp; omega) (by omega) ?_)
            intro v2 w17 hB2 hMv
            have hcm := Chg.moved hMv
            have hW := hcm.at hW (fun e => by have := hB.lt _ e.symm; omega)
            have hM := hM.kept hcm (fun e => by have := hB.lt _ e.symm; omega)
            have hcell : ∀ (j : Nat) (x : List UInt8), (splitL s)[j]? = some x → w17.cell? ⟨gl, j, none⟩ = some (sv x) := fun j x hj => cell_chg hcm (hcell j x hj) (fun e => hne _ e.symm rfl)
            have hC := hC.then hcm (fun k hk e => .inr (.inr (own_back hown e hk)))
            have hown := own_next hown hMv (by omega)
            have hz := hcm.size
            have hne : ∀ k, v2.ownBlock = some k → k ≠ gl := fun k hk e => by
              rcases hMv.at_ with h | ⟨q, h1, h2⟩
              · exact hne k (h ▸ hk) e
              · rw [h1] at hk; injection hk with hk; omega
            have hB := hB2
            clear hB2 hMv
            obtain ⟨ab, cb, rfl⟩ := hB.slice
            refine ⟨hcell i x hx, ?_⟩
            refine AH.eff 18 (by kernel_rfl) rfl rfl (OP.val (by decide) (R.nilCheck rfl) ?_)
            refine ⟨hcell i x hx, ?_⟩
            refine AH.eff 19 (by kernel_rfl) rfl rfl (OP.val (by decide) (FA93_0 rfl) ?_)
            refine ⟨hcell i x hx, ?_⟩
            refine AH.eff 20 (by kernel_rfl) rfl rfl (OP.store1 sz36 rfl rfl rfl rfl hW (Nat.le_of_ble_eq_true rfl) rfl ?_)
            intro w20 hc20 hs20 hWn
            have hcell : ∀ (j : Nat) (x : List UInt8), (splitL s)[j]? = some x → w20.cell? ⟨gl, j, none⟩ = some (sv x) := fun j x hj => cell_chg hc20 (hcell j x hj) (fun e => by omega)
            have hz := hc20.size
            have hW : w20.heap[wb]? = some (.cells #[.slice ab (b ++ [byteOf (x.length : Nat)] ++ x).length cb, .map (some mb)] 93 (0, 0)) := hWn
            have hM := hM.kept hc20 (fun e => by omega)
            have hB := hB.kept hc20 (fun k hk e => by have := hB.lt k hk; omega)
            have hC := hC.then hc20 (fun k hk e => .inl e)
            refine ⟨hcell i x hx, ?_⟩
            refine AH.done (by kernel_rfl) ?_
            refine EW.inNormal ?_
            refine EW.next ?_
            refine CW.region ?_  -- region 11
            refine WL.op (by decide) (R.add rfl rfl (by omega)) ?_  -- msg.go:26 t76 := (Op.binOp BinOp.add 3 t13 c(Value.int IntKind.i64 1) 3)
            refine WL.op (by decide) (R.move rfl) ?_  -- msg.go:26 t13 := (Op.move t76)
            refine WL.nil ?_
            rw [wr_drop hx, hlk] at hE
            simp only [if_pos hlt4] at hE
            exact EW.roundK [0, 4, 12, 13] (k - 1) (by omega) ⟨i + 1, _, _, _, _, by omega, by omega, rfl, hW, hB, hM, hC, hcell, hne, hown, by omega, by have := wlen_drop hx; simp; omega, hE⟩
        · skip
          refine WL.op (by decide) (R.lss rfl rfl (decide_eq_false (by omega))) ?_
          refine WL.next ?_
          refine CW.condF rfl ?_
          refine CW.skip ?_
          refine EW.next ?_
          refine CW.draw (fun w => w.cell? ⟨gl, i, none⟩ = some (sv x)) (by kernel_rfl) ?_
          have hC := hC.trans (Chg.drew _ _)
          have hM := hM.kept (Chg.drew (fun _ => False) _) (fun h => h)
          have hB := hB.kept (Chg.drew (fun _ => False) _) (fun _ _ h => h)
          have hz3 := (Chg.drew (fun _ => False) wr).size
          refine AH.take 0 rfl (by kernel_rfl) (by kernel_rfl) (by kernel_rfl) (fun _ _ _ _ h => h) (hcell i x hx) (by decide) (fun w hS => R.move rfl) ?_  -- msg.go:35 t56 := (Op.move t0)
          refine AH.take 1 rfl (by kernel_rfl) (by kernel_rfl) (by kernel_rfl) (fun _ _ _ _ h => h) (hcell i x hx) (by decide) (fun w hS => R.move rfl) ?_  -- msg.go:35 t57 := (Op.move t0)
          refine AH.take 2 rfl (by kernel_rfl) (by kernel_rfl) (by kernel_rfl) (fun _ _ _ _ h => h) (hcell i x hx) (by decide) (fun w hS => R.nilCheck rfl) ?_  -- msg.go:35 t58 := (Op.nilCheck t57)
          refine AH.take 3 rfl (by kernel_rfl) (by kernel_rfl) (by kernel_rfl) (fun _ _ _ _ h => h) (hcell i x hx) (by decide) (fun w hS => FA93_0 rfl) ?_  -- msg.go:35 t59 := (Op.fieldAddr 93 t58 0)
          refine AH.take 5 rfl (by kernel_rfl) (by kernel_rfl) (by kernel_rfl) (fun _ _ _ _ h => h) (hcell i x hx) (by decide) (fun w hS => R.move rfl) ?_  -- msg.go:35 t61 := (Op.move t4)
          refine AH.take 6 rfl (by kernel_rfl) (by kernel_rfl) (by kernel_rfl) (fun _ _ _ _ h => h) (hcell i x hx) (by decide) (fun w hS => R.move rfl) ?_  -- msg.go:35 t62 := (Op.move t5)
          refine AH.take 7 rfl (by kernel_rfl) (by kernel_rfl) (by kernel_rfl) (fun _ _ _ _ h => h) (hcell i x hx) (by decide) (fun w hS => R.indexAddr1 (i := i) Tryd.underlying80 sz9 rfl rfl rfl hlt) ?_  -- msg.go:35 t63 := (Op.indexAddr 80 t61 t62)
          refine AH.take 8 rfl (by kernel_rfl) (by kernel_rfl) (by kernel_rfl) (fun _ _ _ _ h => h) (hcell i x hx) (by decide) (fun w hS => R.load Tryd.underlying9 rfl rfl (by rw [Nat.mul_one, Nat.zero_add]; exact hS)) ?_  -- msg.go:35 t64 := (Op.load 9 t63)
          refine AH.take 9 rfl (by kernel_rfl) (by kernel_rfl) (by kernel_rfl) (fun _ _ _ _ h => h) (hcell i x hx) (by decide) (fun w hS => R.lenS rfl rfl) ?_  -- msg.go:35 t65 := (Op.call (Call.mk (Callee.builtin Builtin.len) [t64] [9]))
          refine AH.take 10 rfl (by kernel_rfl) (by kernel_rfl) (by kernel_rfl) (fun _ _ _ _ h => h) (hcell i x hx) (by decide) (fun w hS => R.conv35 rfl) ?_  -- msg.go:35 t66 := (Op.convert 3 5 t65)
          refine AH.take 13 rfl (by kernel_rfl) (by kernel_rfl) (by kernel_rfl) (fun _ _ _ _ h => h) (hcell i x hx) (by decide) (fun w hS => R.move rfl) ?_  -- msg.go:35 t69 := (Op.move t4)
          refine AH.take 14 rfl (by kernel_rfl) (by kernel_rfl) (by kernel_rfl) (fun _ _ _ _ h => h) (hcell i x hx) (by decide) (fun w hS => R.move rfl) ?_  -- msg.go:35 t70 := (Op.move t5)
          refine AH.take 15 rfl (by kernel_rfl) (by kernel_rfl) (by kernel_rfl) (fun _ _ _ _ h => h) (hcell i x hx) (by decide) (fun w hS => R.indexAddr1 (i := i) Tryd.underlying80 sz9 rfl rfl rfl hlt) ?_  -- msg.go:35 t71 := (Op.indexAddr 80 t69 t70)
          refine AH.take 16 rfl (by kernel_rfl) (by kernel_rfl) (by kernel_rfl) (fun _ _ _ _ h => h) (hcell i x hx) (by decide) (fun w hS => R.load Tryd.underlying9 rfl rfl (by rw [Nat.mul_one, Nat.zero_add]; exact hS)) ?_  -- msg.go:35 t72 := (Op.load 9 t71)
          refine AH.either 4 11 (by kernel_rfl) rfl rfl rfl rfl ?_ ?_
          · skip
            refine (OP.val (by decide) (R.load Tryd.underlying36 rfl rfl (cell_at hW rfl)) ?_)
            refine ⟨hcell i x hx, ?_⟩
            refine AH.eff 11 (by kernel_rfl) rfl rfl (OP.buildSlice1 (by decide) rfl ?_)
            intro w11 hc11 hs11 hb11
            have hcell : ∀ (j : Nat) (x : List UInt8), (splitL s)[j]? = some x → w11.cell? ⟨gl, j, none⟩ = some (sv x) := fun j x hj => cell_chg hc11 (hcell j x hj) (fun e => by omega)
            have hz := hc11.size
            have hW := hc11.at hW (fun h => h)
            have hM := hM.kept hc11 (fun h => h)
            have hB := hB.kept hc11 (fun _ _ h => h)
            have hC := hC.then hc11 (fun k hk e => e.elim)
            refine ⟨hcell i x hx, ?_⟩
            refine AH.eff 12 (by kernel_rfl) rfl rfl (OP.appendByte (by decide) rfl rfl hB hb11 (by omega) (by omega) ?_)
            intro v2 w12 hB2 hMv
            have hcm := Chg.moved hMv
            have hW := hcm.at hW (fun e => by have := hB.lt _ e.symm; omega)
            have hM := hM.kept hcm (fun e => by have := hB.lt _ e.symm; omega)
            have hcell : ∀ (j : Nat) (x : List UInt8), (splitL s)[j]? = some x → w12.cell? ⟨gl, j, none⟩ = some (sv x) := fun j x hj => cell_chg hcm (hcell j x hj) (fun e => hne _ e.symm rfl)
            have hC := hC.then hcm (fun k hk e => .inr (.inr (own_back hown e hk)))
            have hown := own_next hown hMv (by omega)
            have hz := hcm.size
            have hne : ∀ k, v2.ownBlock = some k → k ≠ gl := fun k hk e => by
              rcases hMv.at_ with h | ⟨q, h1, h2⟩
              · exact hne k (h ▸ hk) e
              · rw [h1] at hk; injection hk with hk; omega
            have hB := hB2
            clear hB2 hMv
            obtain ⟨ab, cb, rfl⟩ := hB.slice
            refine ⟨hcell i x hx, ?_⟩
            refine AH.eff 17 (by kernel_rfl) rfl rfl (OP.appendStr (by decide) rfl rfl hB (by simp; omega) (by omega) ?_)
            intro v2 w17 hB2 hMv
            have hcm := Chg.moved hMv
            have hW := hcm.at hW (fun e => by have := hB.lt _ e.symm; omega)
            have hM := hM.kept hcm (fun e => by have := hB.lt _ e.symm; omega)
            have hcell : ∀ (j : Nat) (x : List UInt8), (splitL s)[j]? = some x → w17.cell? ⟨gl, j, none⟩ = some (sv x) := fun j x hj => cell_chg hcm (hcell j x hj) (fun e => hne _ e.symm rfl)
            have hC := hC.then hcm (fun k hk e => .inr (.inr (own_back hown e hk)))
            have hown := own_next hown hMv (by omega)
            have hz := hcm.size
            have hne : ∀ k, v2.ownBlock = some k → k ≠ gl := fun k hk e => by
              rcases hMv.at_ with h | ⟨q, h1, h2⟩
              · exact hne k (h ▸ hk) e
              · rw [h1] at hk; injection hk with hk; omega
            have hB := hB2
            clear hB2 hMv
            obtain ⟨ab, cb, rfl⟩ := hB.slice
            refine ⟨hcell i x hx, ?_⟩
            refine AH.eff 18 (by kernel_rfl) rfl rfl (OP.val (by decide) (R.nilCheck rfl) ?_)
            refine ⟨hcell i x hx, ?_⟩
            refine AH.eff 19 (by kernel_rfl) rfl rfl (OP.val (by decide) (FA93_0 rfl) ?_)
            refine ⟨hcell i x hx, ?_⟩
            refine AH.eff 20 (by kernel_rfl) rfl rfl (OP.store1 sz36 rfl rfl rfl rfl hW (Nat.le_of_ble_eq_true rfl) rfl ?_)
            intro w20 hc20 hs20 hWn
            have hcell : ∀ (j : Nat) (x : List UInt8), (splitL s)[j]? = some x → w20.cell? ⟨gl, j, none⟩ = some (sv x) := fun j x hj => cell_chg hc20 (hcell j x hj) (fun e => by omega)
            have hz := hc20.size
            have hW : w20.heap[wb]? = some (.cells #[.slice ab (b ++ [byteOf (x.length : Nat)] ++ x).length cb, .map (some mb)] 93 (0, 0)) := hWn
            have hM := hM.kept hc20 (fun e => by omega)
            have hB := hB.kept hc20 (fun k hk e => by have := hB.lt k hk; omega)
            have hC := hC.then hc20 (fun k hk e => .inl e)
            refine ⟨hcell i x hx, ?_⟩
            refine AH.done (by kernel_rfl) ?_
            refine EW.inNormal ?_
            refine EW.next ?_
            refine CW.region ?_  -- region 11
            refine WL.op (by decide) (R.add rfl rfl (by omega)) ?_  -- msg.go:26 t76 := (Op.binOp BinOp.add 3 t13 c(Value.int IntKind.i64 1) 3)
            refine WL.op (by decide) (R.move rfl) ?_  -- msg.go:26 t13 := (Op.move t76)
            refine WL.nil ?_
            rw [wr_drop hx, hlk] at hE
            simp only [if_neg hlt4] at hE
            exact EW.roundK [0, 4, 12, 13] (k - 1) (by omega) ⟨i + 1, _, _, _, _, by omega, by omega, rfl, hW, hB, hM, hC, hcell, hne, hown, by omega, by have := wlen_drop hx; simp; omega, hE⟩
          · skip
            refine (OP.buildSlice1 (by decide) rfl ?_)
            intro w11 hc11 hs11 hb11
            have hcell : ∀ (j : Nat) (x : List UInt8), (splitL s)[j]? = some x → w11.cell? ⟨gl, j, none⟩ = some (sv x) := fun j x hj => cell_chg hc11 (hcell j x hj) (fun e => by omega)
            have hz := hc11.size
            have hW := hc11.at hW (fun h => h)
            have hM := hM.kept hc11 (fun h => h)
            have hB := hB.kept hc11 (fun _ _ h => h)
            have hC := hC.then hc11 (fun k hk e => e.elim)
            refine ⟨hcell i x hx, ?_⟩
            refine AH.eff 4 (by kernel_rfl) rfl rfl (OP.val (by decide) (R.load Tryd.underlying36 rfl rfl (cell_at hW rfl)) ?_)
            refine ⟨hcell i x hx, ?_⟩
            refine AH.eff 12 (by kernel_rfl) rfl rfl (OP.appendByte (by decide) rfl rfl hB hb11 (by omega) (by omega) ?_)
            intro v2 w12 hB2 hMv
            have hcm := Chg.moved hMv
            have hW := hcm.at hW (fun e => by have := hB.lt _ e.symm; omega)
            have hM := hM.kept hcm (fun e => by have := hB.lt _ e.symm; omega)
            have hcell : ∀ (j : Nat) (x : List UInt8), (splitL s)[j]? = some x → w12.cell? ⟨gl, j, none⟩ = some (sv x) := fun j x hj => cell_chg hcm (hcell j x hj) (fun e => hne _ e.symm rfl)
            have hC := hC.then hcm (fun k hk e => .inr (.inr (own_back hown e hk)))
            have hown := own_next hown hMv (by omega)
            have hz := hcm.size
            have hne : ∀ k, v2.ownBlock = some k → k ≠ gl := fun k hk e => by
              rcases hMv.at_ with h | ⟨q, h1, h2⟩
              · exact hne k (h ▸ hk) e
              · rw [h1] at hk; injection hk with hk; omega
            have hB := hB2
            clear hB2 hMv
            obtain ⟨ab, cb, rfl⟩ := hB.slice
            refine ⟨hcell i x hx, ?_⟩
            refine AH.eff 17 (by kernel_rfl) rfl rfl (OP.appendStr (by decide) rfl rfl hB (by simp; omega) (by omega) ?_)
            intro v2 w17 hB2 hMv
            have hcm := Chg.moved hMv
            have hW := hcm.at hW (fun e => by have := hB.lt _ e.symm; omega)
            have hM := hM.kept hcm (fun e => by have := hB.lt _ e.symm; omega)
            have hcell : ∀ (j : Nat) (x : List UInt8), (splitL s)[j]? = some x → w17.cell? ⟨gl, j, none⟩ = some (sv x) := fun j x hj => cell_chg hcm (hcell j x hj) (fun e => hne _ e.symm rfl)
            have hC := hC.then hcm (fun k hk e => .inr (.inr (own_back hown e hk)))
            have hown := own_next hown hMv (by omega)
            have hz := hcm.size
            have hne : ∀ k, v2.ownBlock = some k → k ≠ gl := fun k hk e => by
              rcases hMv.at_ with h | ⟨q, h1, h2⟩
              · exact hne k (h ▸ hk) e
              · rw [h1] at hk; injection hk with hk; omega
            have hB := hB2
            clear hB2 hMv
            obtain ⟨ab, cb, rfl⟩ := hB.slice
            refine ⟨hcell i x hx, ?_⟩
            refine AH.eff 18 (by kernel_rfl) rfl rfl (OP.val (by decide) (R.nilCheck rfl) ?_)
            refine ⟨hcell i x hx, ?_⟩
            refine AH.eff 19 (by kernel_rfl) rfl rfl (OP.val (by decide) (FA93_0 rfl) ?_)
            refine ⟨hcell i x hx, ?_⟩
            refine AH.eff 20 (by kernel_rfl) rfl rfl (OP.store1 sz36 rfl rfl rfl rfl hW (Nat.le_of_ble_eq_true rfl) rfl ?_)
            intro w20 hc20 hs20 hWn
            have hcell : ∀ (j : Nat) (x : List UInt8), (splitL s)[j]? = some x → w20.cell? ⟨gl, j, none⟩ = some (sv x) := fun j x hj => cell_chg hc20 (hcell j x hj) (fun e => by omega)
            have hz := hc20.size
            have hW : w20.heap[wb]? = some (.cells #[.slice ab (b ++ [byteOf (x.length : Nat)] ++ x).length cb, .map (some mb)] 93 (0, 0)) := hWn
            have hM := hM.kept hc20 (fun e => by omega)
            have hB := hB.kept hc20 (fun k hk e => by have := hB.lt k hk; omega)
            have hC := hC.then hc20 (fun k hk e => .inl e)
            refine ⟨hcell i x hx, ?_⟩
            refine AH.done (by kernel_rfl) ?_
            refine EW.inNormal ?_
            refine EW.next ?_
            refine CW.region ?_  -- region 11
            refine WL.op (by decide) (R.add rfl rfl (by omega)) ?_  -- msg.go:26 t76 := (Op.binOp BinOp.add 3 t13 c(Value.int IntKind.i64 1) 3)
            refine WL.op (by decide) (R.move rfl) ?_  -- msg.go:26 t13 := (Op.move t76)
            refine WL.nil ?_
            rw [wr_drop hx, hlk] at hE
            simp only [if_neg hlt4] at hE
            exact EW.roundK [0, 4, 12, 13] (k - 1) (by omega) ⟨i + 1, _, _, _, _, by omega, by omega, rfl, hW, hB, hM, hC, hcell, hne, hown, by omega, by have := wlen_drop hx; simp; omega, hE⟩
      · skip
        have hp := hM.1 _ (lookA_mem hlk)
        simp only at hp
        refine WL.op (by decide) (R.move rfl) ?_  -- msg.go:28 t20 := (Op.move t26)
        refine WL.op (by decide) (R.extract rfl rfl) ?_  -- msg.go:28 t27 := (Op.extract t20 0)
        refine WL.op (by decide) (R.extract rfl rfl) ?_
        refine WL.op (by decide) (R.assign rfl) ?_  -- msg.go:28 t7 := (Op.assign t27)
        refine WL.op (by decide) (R.assign rfl) ?_  -- msg.go:28 t8 := (Op.assign t28)
        refine WL.next ?_
        refine CW.rseq ?_  -- region 6
        refine WL.op (by decide) (R.move rfl) ?_  -- msg.go:28 t29 := (Op.move t8)
        refine WL.next ?_
        refine CW.condT rfl ?_
        refine CW.rseq ?_  -- region 7
        refine WL.op (by decide) (R.move rfl) ?_  -- msg.go:29 t30 := (Op.move t0)
        refine WL.op (by decide) (R.move rfl) ?_  -- msg.go:29 t31 := (Op.move t0)
        refine WL.op (by decide) (R.nilCheck rfl) ?_  -- msg.go:29 t32 := (Op.nilCheck t31)
        refine WL.op (by decide) (FA93_0 rfl) ?_  -- msg.go:29 t33 := (Op.fieldAddr 93 t32 0)
        refine WL.op (by decide) (R.load Tryd.underlying36 rfl rfl (cell_at hW rfl)) ?_  -- msg.go:29 t34 := (Op.load 36 t33)
        refine WL.op (by decide) (R.move rfl) ?_  -- msg.go:29 t35 := (Op.move t7)
        refine WL.op (by decide) (R.orN (a := 49152) rfl rfl (by decide) (by omega)) ?_  -- msg.go:29 t36 := (Op.binOp BinOp.or 3 c(Value.int IntKind.i64 49152) t35 3)
        refine WL.eff rfl (OP.call (by decide) Tryd.func42 (by kernel_rfl) (by kernel_rfl) rfl (put_any base _ b 2 _ wr (by decide) hB (by omega) (by omega)) ?_)
        rintro ed w2 ⟨v2, rfl, hB2, hMv⟩
        refine ⟨_, rfl, ?_⟩
        have hcm := Chg.moved hMv
        have hW := hcm.at hW (fun e => by have := hB.lt _ e.symm; omega)
        have hM := hM.kept hcm (fun e => by have := hB.lt _ e.symm; omega)
        have hC := hC.then hcm (fun k hk e => .inr (.inr (own_back hown e hk)))
        have hown := own_next hown hMv (by omega)
        obtain ⟨ab2, cb2, rfl⟩ := hB2.slice
        refine WL.op (by decide) (R.nilCheck rfl) ?_  -- msg.go:29 t38 := (Op.nilCheck t30)
        refine WL.op (by decide) (FA93_0 rfl) ?_  -- msg.go:29 t39 := (Op.fieldAddr 93 t38 0)
        refine WL.eff rfl (OP.store1 sz36 rfl rfl rfl rfl hW (Nat.le_of_ble_eq_true rfl) rfl ?_)
        intro w3 hc3 hs3 hW
        have hM := hM.kept hc3 (fun e => by omega)
        have hB := hB2.kept hc3 (fun k hk e => by have := hB2.lt k hk; omega)
        have hC := hC.then hc3 (fun k hk e => .inl e)
        refine WL.next ?_
        refine CW.ret ?_
        refine EW.thenRet ?_
        refine EW.inRet ?_
        refine EW.thenRet ?_
        refine EW.thenRet ?_
        refine EW.inRet ?_
        refine EW.thenRet ?_
        exact EW.ret0 (.inl rfl) rfl ⟨rfl, _, by rw [wrName, hE, wr_drop hx, hlk]; exact ⟨hW, hB, hM⟩, hC, hown⟩
    · skip
      refine WL.next ?_
      refine CW.seq ?_
      refine CW.condF rfl ?_
      refine CW.exit ?_
      refine EW.thenExit ?_
      refine EW.thenExit ?_
      refine EW.inHere ?_
      refine EW.next ?_
      refine CW.region ?_  -- region 12
      refine WL.op (by decide) (R.move rfl) ?_  -- msg.go:37 t77 := (Op.move t0)
      refine WL.op (by decide) (R.move rfl) ?_  -- msg.go:37 t78 := (Op.move t0)
      refine WL.op (by decide) (R.nilCheck rfl) ?_  -- msg.go:37 t79 := (Op.nilCheck t78)
      refine WL.op (by decide) (FA93_0 rfl) ?_  -- msg.go:37 t80 := (Op.fieldAddr 93 t79 0)
      refine WL.op (by decide) (R.load Tryd.underlying36 rfl rfl (cell_at hW rfl)) ?_  -- msg.go:37 t81 := (Op.load 36 t80)
      obtain ⟨ab, cb, rfl⟩ := hB.slice
      refine WL.eff rfl (OP.buildSlice1 (c := 0) (by decide) rfl ?_)
      intro w11 hc11 hs11 hb11
      have hz := hc11.size
      have hW := hc11.at hW (fun h => h)
      have hM := hM.kept hc11 (fun h => h)
      have hB := hB.kept hc11 (fun _ _ h => h)
      have hC := hC.then hc11 (fun k hk e => e.elim)
      refine WL.eff rfl (OP.appendByte (by decide) rfl rfl hB hb11 (by omega) (by omega) ?_)
      intro v2 w12 hB2 hMv
      have hcm := Chg.moved hMv
      have hW := hcm.at hW (fun e => by have := hB.lt _ e.symm; omega)
      have hM := hM.kept hcm (fun e => by have := hB.lt _ e.symm; omega)
      have hcell0 : ∀ (j : Nat) (x : List UInt8), (splitL s)[j]? = some x → w12.cell? ⟨gl, j, none⟩ = some (sv x) := fun j x hj => cell_chg hcm (cell_chg hc11 (hcell j x hj) (fun h => h)) (fun e => hne _ e.symm rfl)
      have hC := hC.then hcm (fun k hk e => .inr (.inr (own_back hown e hk)))
      have hown := own_next hown hMv (by omega)
      have hz := hcm.size
      have hne : ∀ k, v2.ownBlock = some k → k ≠ gl := fun k hk e => by
        rcases hMv.at_ with h | ⟨q, h1, h2⟩
        · exact hne k (h ▸ hk) e
        · rw [h1] at hk; injection hk with hk; omega
      have hB := hB2
      clear hB2 hMv
      obtain ⟨ab, cb, rfl⟩ := hB.slice
      refine WL.op (by decide) (R.nilCheck rfl) ?_  -- msg.go:37 t84 := (Op.nilCheck t77)
      refine WL.op (by decide) (FA93_0 rfl) ?_  -- msg.go:37 t85 := (Op.fieldAddr 93 t84 0)
      refine WL.eff rfl (OP.store1 sz36 rfl rfl rfl rfl hW (Nat.le_of_ble_eq_true rfl) rfl ?_)
      intro w3 hc3 hs3 hW
      have hM := hM.kept hc3 (fun e => by omega)
      have hB := hB.kept hc3 (fun k hk e => by have := hB.lt k hk; omega)
      have hC := hC.then hc3 (fun k hk e => .inl e)
      refine WL.nil ?_
      exact EW.ret0 (.inr rfl) rfl ⟨rfl, _, by rw [wrName, hE, List.drop_of_length_le (by omega)]; exact ⟨hW, hB, hM⟩, hC, hown⟩
end Go.Proofs.YthcpjcgjmdfpjaaDoor
