/- Words, contracts and walks that several statements share (CoreB): MRight, RecMem, RowLaw, Seat, Joined, Ops4, All, RdSpec, Whole, RName, Num, RecSpec. -/
import Derived.Test.YthcpjcgjmdfpjaaDoorCoreA
import Derived.Test.YthcpjcgjmdfpjaaDoorRows
import Derived.Test.YthcpjcgjmdfpjaaDoorTie
import Derived.Test.YthcpjcgjmdfpjaaDoorCards
import Derived.ProofKit
import Derived.OpenShut
import Derived.LaidMore
import Derived.Lay
import Derived.SevenTiedAt
import Derived.Stop.Joined
import Derived.JoinedOf
namespace Go.Proofs.YthcpjcgjmdfpjaaDoor
open Go Go.RowKit
set_option maxRecDepth 100000
set_option maxHeartbeats 4000000

theorem take_map {a : List UInt8} {k j : Nat} {u : Value} (h : ((a.take k).map u8v)[j]? = some u) : (a.map u8v)[j]? = some u := by
  rw [List.map_take, List.getElem?_take] at h
  split at h
  · exact h
  · cases h

theorem mright_any (r : Rec) (w0 : World) (hadr : r.addr.length = 16) (hG : Glob w0) (hl1 : r.name.length ≤ 1099511627776) (hl2 : r.text.length ≤ 1099511627776) (hl3 : r.data.length ≤ 1099511627776) :
    Calls Tryd.prog 41 #[r.val] w0 fun e w' => e = .returned (.bool (rightR r)) ∧ Chg (fun _ => False) w0 w' := by
  refine calls_cw (args := [r.val]) Tryd.func41 rfl rfl ?_
  show CW _ _ _ 90 [(0, r.val)] w0
  refine CW.rseq ?_
  refine WL.eff rfl (OP.box (by decide) rfl ?_)
  intro w1 hc1 hs1 hB0
  refine WL.op (by decide) (R.assign rfl) ?_
  refine WL.next ?_
  refine CW.seq ?_
  refine CW.rseq ?_
  refine WL.op (by decide) (FA57_0 rfl) ?_
  refine WL.op (by decide) (R.load Tryd.underlying9 rfl rfl (cell_at hB0 r.at0)) ?_
  refine WL.eff rfl (OP.call (by decide) Tryd.func50 (by kernel_rfl) (by kernel_rfl) rfl (names_any r.name w1 hl1) ?_)
  rintro e w2 ⟨rfl, hc2⟩
  refine ⟨_, rfl, ?_⟩
  have hB := hc2.at hB0 (fun h => h)
  have hC := hc1.trans hc2
  have hG2 := (hG.kept hc1 (fun h => h)).kept hc2 (fun h => h)
  cases hn : namesL r.name
  · skip
    refine WL.op (by decide) (R.not rfl) ?_
    refine WL.op (by decide) (R.move rfl) ?_
    refine WL.pass (by decide) rfl rfl rfl ?_
    refine WL.pass (by decide) rfl rfl rfl ?_
    refine WL.pass (by decide) rfl rfl rfl ?_
    refine WL.op (by decide) (R.pickT rfl rfl) ?_
    refine WL.op (by decide) (R.move rfl) ?_
    refine WL.pass (by decide) rfl rfl rfl ?_
    refine WL.pass (by decide) rfl rfl rfl ?_
    refine WL.pass (by decide) rfl rfl rfl ?_
    refine WL.op (by decide) (R.pickT rfl rfl) ?_
    refine WL.next ?_
    refine CW.condT rfl ?_
    refine CW.rseq ?_
    refine WL.op (by decide) (R.assign rfl) ?_
    refine WL.next ?_
    refine CW.ret ?_
    refine EW.thenRet ?_
    refine EW.ret1 (.inl rfl) rfl rfl ⟨?_, hC⟩
    exact congrArg (fun b => Ending.returned (.bool b)) (show _ = rightR r from by unfold rightR; first | (simp [*]; done) | (simp [*]; omega) | (simp [*]; intros; omega))
  · skip
    refine WL.op (by decide) (R.not rfl) ?_
    refine WL.op (by decide) (R.move rfl) ?_
    refine WL.gop (by decide) rfl rfl rfl (FA57_2 rfl) ?_
    refine WL.gop (by decide) rfl rfl rfl (R.load Tryd.underlying3 rfl rfl (cell_at hB r.at2)) ?_
    refine WL.gsplit _ (by decide) rfl rfl rfl (R.lssD rfl rfl) (fun h1 => ?_) (fun h1 => ?_)
    · skip
      refine WL.op (by decide) (R.pickF rfl rfl) ?_
      refine WL.op (by decide) (R.move rfl) ?_
      refine WL.pass (by decide) rfl rfl rfl ?_
      refine WL.pass (by decide) rfl rfl rfl ?_
      refine WL.pass (by decide) rfl rfl rfl ?_
      refine WL.op (by decide) (R.pickT rfl rfl) ?_
      refine WL.next ?_
      refine CW.condT rfl ?_
      refine CW.rseq ?_
      refine WL.op (by decide) (R.assign rfl) ?_
      refine WL.next ?_
      refine CW.ret ?_
      refine EW.thenRet ?_
      refine EW.ret1 (.inl rfl) rfl rfl ⟨?_, hC⟩
      exact congrArg (fun b => Ending.returned (.bool b)) (show _ = rightR r from by unfold rightR; first | (simp [*]; done) | (simp [*]; omega) | (simp [*]; intros; omega))
    · skip
      refine WL.op (by decide) (R.pickF rfl rfl) ?_
      refine WL.op (by decide) (R.move rfl) ?_
      refine WL.gop (by decide) rfl rfl rfl (FA57_2 rfl) ?_
      refine WL.gop (by decide) rfl rfl rfl (R.load Tryd.underlying3 rfl rfl (cell_at hB r.at2)) ?_
      refine WL.gsplit _ (by decide) rfl rfl rfl (R.gtrD rfl rfl) (fun h2 => ?_) (fun h2 => ?_)
      · skip
        refine WL.op (by decide) (R.pickF rfl rfl) ?_
        refine WL.next ?_
        refine CW.condT rfl ?_
        refine CW.rseq ?_
        refine WL.op (by decide) (R.assign rfl) ?_
        refine WL.next ?_
        refine CW.ret ?_
        refine EW.thenRet ?_
        refine EW.ret1 (.inl rfl) rfl rfl ⟨?_, hC⟩
        exact congrArg (fun b => Ending.returned (.bool b)) (show _ = rightR r from by unfold rightR; first | (simp [*]; done) | (simp [*]; omega) | (simp [*]; intros; omega))
      · skip
        refine WL.op (by decide) (R.pickF rfl rfl) ?_
        refine WL.next ?_
        refine CW.condF rfl ?_
        refine CW.skip ?_
        refine EW.next ?_
        refine CW.seq ?_
        refine CW.rseq ?_
        refine WL.op (by decide) (FA57_1 rfl) ?_
        refine WL.op (by decide) (R.load Tryd.underlying3 rfl rfl (cell_at hB r.at1)) ?_
        refine WL.next ?_
        refine CW.block ?_
        refine CW.rseq ?_
        refine WL.eqlS (by decide) rfl rfl (fun h3 => ?_) (fun h3 => ?_)
        · skip
          refine WL.op (by decide) (R.assign rfl) ?_
          refine WL.next ?_
          refine CW.condT rfl ?_
          refine CW.seq ?_
          rcases four (p := r.text = []) (q := r.data = []) (s := r.addr.take 12 = mappedL) with h1 | ⟨h1, h2⟩ | ⟨h1, h2, h3⟩ | ⟨h1, h2, h3⟩
          · skip
            refine CW.draw (fun w => w.heap[w0.heap.size]? = some (.cells r.cells.toArray 57 (0, 0)) ∧ Glob w) (by kernel_rfl) ?_
            refine AH.take 0 rfl (by kernel_rfl) (by kernel_rfl) (by kernel_rfl) (fun _ _ _ _ h => h) ⟨hB, hG2⟩ (by decide) (fun w hS => FA57_4 rfl) ?_
            refine AH.take 1 rfl (by kernel_rfl) (by kernel_rfl) (by kernel_rfl) (fun _ _ _ _ h => h) ⟨hB, hG2⟩ (by decide) (fun w hS => R.load Tryd.underlying9 rfl rfl (cell_at hS.1 (Rec.at19 hadr))) ?_
            refine AH.take 2 rfl (by kernel_rfl) (by kernel_rfl) (by kernel_rfl) (fun _ _ _ _ h => h) ⟨hB, hG2⟩ (by decide) (fun w hS => R.eqlStrC (b := []) rfl rfl (decide_eq_false h1)) ?_
            refine AH.take 3 rfl (by kernel_rfl) (by kernel_rfl) (by kernel_rfl) (fun _ _ _ _ h => h) ⟨hB, hG2⟩ (by decide) (fun w hS => R.move rfl) ?_
            refine AH.pass 4 rfl (by kernel_rfl) (by kernel_rfl) (by kernel_rfl) (fun _ _ _ _ h => h) ⟨hB, hG2⟩ (by decide) rfl rfl rfl ?_
            refine AH.pass 5 rfl (by kernel_rfl) (by kernel_rfl) (by kernel_rfl) (fun _ _ _ _ h => h) ⟨hB, hG2⟩ (by decide) rfl rfl rfl ?_
            refine AH.pass 6 rfl (by kernel_rfl) (by kernel_rfl) (by kernel_rfl) (fun _ _ _ _ h => h) ⟨hB, hG2⟩ (by decide) rfl rfl rfl ?_
            refine AH.take 7 rfl (by kernel_rfl) (by kernel_rfl) (by kernel_rfl) (fun _ _ _ _ h => h) ⟨hB, hG2⟩ (by decide) (fun w hS => R.pickF rfl rfl) ?_
            refine AH.take 8 rfl (by kernel_rfl) (by kernel_rfl) (by kernel_rfl) (fun _ _ _ _ h => h) ⟨hB, hG2⟩ (by decide) (fun w hS => R.move rfl) ?_
            refine AH.pass 9 rfl (by kernel_rfl) (by kernel_rfl) (by kernel_rfl) (fun _ _ _ _ h => h) ⟨hB, hG2⟩ (by decide) rfl rfl rfl ?_
            refine AH.pass 10 rfl (by kernel_rfl) (by kernel_rfl) (by kernel_rfl) (fun _ _ _ _ h => h) ⟨hB, hG2⟩ (by decide) rfl rfl rfl ?_
            refine AH.pass 11 rfl (by kernel_rfl) (by kernel_rfl) (by kernel_rfl) (fun _ _ _ _ h => h) ⟨hB, hG2⟩ (by decide) rfl rfl rfl ?_
            refine AH.pass 12 rfl (by kernel_rfl) (by kernel_rfl) (by kernel_rfl) (fun _ _ _ _ h => h) ⟨hB, hG2⟩ (by decide) rfl rfl rfl ?_
            refine AH.pass 13 rfl (by kernel_rfl) (by kernel_rfl) (by kernel_rfl) (fun _ _ _ _ h => h) ⟨hB, hG2⟩ (by decide) rfl rfl rfl ?_
            refine AH.pass 14 rfl (by kernel_rfl) (by kernel_rfl) (by kernel_rfl) (fun _ _ _ _ h => h) ⟨hB, hG2⟩ (by decide) rfl rfl rfl ?_
            refine AH.take 15 rfl (by kernel_rfl) (by kernel_rfl) (by kernel_rfl) (fun _ _ _ _ h => h) ⟨hB, hG2⟩ (by decide) (fun w hS => R.pickF rfl rfl) ?_
            refine AH.take 16 rfl (by kernel_rfl) (by kernel_rfl) (by kernel_rfl) (fun _ _ _ _ h => h) ⟨hB, hG2⟩ (by decide) (fun w hS => R.assign rfl) ?_
            refine AH.done (by kernel_rfl) ?_
            refine EW.next ?_
            refine CW.ret ?_
            refine EW.inRet ?_
            refine EW.thenRet ?_
            refine EW.ret1 (.inl rfl) rfl rfl ⟨?_, (hC.trans (Chg.drew _ _))⟩
            exact congrArg (fun b => Ending.returned (.bool b)) (show _ = rightR r from by unfold rightR; first | (simp [*]; done) | (simp [*]; omega) | (simp [*]; intros; omega))
          · skip
            refine CW.draw (fun w => w.heap[w0.heap.size]? = some (.cells r.cells.toArray 57 (0, 0)) ∧ Glob w) (by kernel_rfl) ?_
            refine AH.take 0 rfl (by kernel_rfl) (by kernel_rfl) (by kernel_rfl) (fun _ _ _ _ h => h) ⟨hB, hG2⟩ (by decide) (fun w hS => FA57_4 rfl) ?_
            refine AH.take 1 rfl (by kernel_rfl) (by kernel_rfl) (by kernel_rfl) (fun _ _ _ _ h => h) ⟨hB, hG2⟩ (by decide) (fun w hS => R.load Tryd.underlying9 rfl rfl (cell_at hS.1 (Rec.at19 hadr))) ?_
            refine AH.take 2 rfl (by kernel_rfl) (by kernel_rfl) (by kernel_rfl) (fun _ _ _ _ h => h) ⟨hB, hG2⟩ (by decide) (fun w hS => R.eqlStrC (b := []) rfl rfl (decide_eq_true h1)) ?_
            refine AH.take 3 rfl (by kernel_rfl) (by kernel_rfl) (by kernel_rfl) (fun _ _ _ _ h => h) ⟨hB, hG2⟩ (by decide) (fun w hS => R.move rfl) ?_
            refine AH.takeG 4 rfl (by kernel_rfl) (by kernel_rfl) (by kernel_rfl) (fun _ _ _ _ h => h) ⟨hB, hG2⟩ (by decide) rfl rfl rfl (fun w hS => FA57_5 rfl) ?_
            refine AH.takeG 5 rfl (by kernel_rfl) (by kernel_rfl) (by kernel_rfl) (fun _ _ _ _ h => h) ⟨hB, hG2⟩ (by decide) rfl rfl rfl (fun w hS => R.load Tryd.underlying9 rfl rfl (cell_at hS.1 (Rec.at20 hadr))) ?_
            refine AH.takeG 6 rfl (by kernel_rfl) (by kernel_rfl) (by kernel_rfl) (fun _ _ _ _ h => h) ⟨hB, hG2⟩ (by decide) rfl rfl rfl (fun w hS => R.eqlStrC (b := []) rfl rfl (decide_eq_false h2)) ?_
            refine AH.take 7 rfl (by kernel_rfl) (by kernel_rfl) (by kernel_rfl) (fun _ _ _ _ h => h) ⟨hB, hG2⟩ (by decide) (fun w hS => R.pickT rfl rfl) ?_
            refine AH.take 8 rfl (by kernel_rfl) (by kernel_rfl) (by kernel_rfl) (fun _ _ _ _ h => h) ⟨hB, hG2⟩ (by decide) (fun w hS => R.move rfl) ?_
            refine AH.pass 9 rfl (by kernel_rfl) (by kernel_rfl) (by kernel_rfl) (fun _ _ _ _ h => h) ⟨hB, hG2⟩ (by decide) rfl rfl rfl ?_
            refine AH.pass 10 rfl (by kernel_rfl) (by kernel_rfl) (by kernel_rfl) (fun _ _ _ _ h => h) ⟨hB, hG2⟩ (by decide) rfl rfl rfl ?_
            refine AH.pass 11 rfl (by kernel_rfl) (by kernel_rfl) (by kernel_rfl) (fun _ _ _ _ h => h) ⟨hB, hG2⟩ (by decide) rfl rfl rfl ?_
            refine AH.pass 12 rfl (by kernel_rfl) (by kernel_rfl) (by kernel_rfl) (fun _ _ _ _ h => h) ⟨hB, hG2⟩ (by decide) rfl rfl rfl ?_
            refine AH.pass 13 rfl (by kernel_rfl) (by kernel_rfl) (by kernel_rfl) (fun _ _ _ _ h => h) ⟨hB, hG2⟩ (by decide) rfl rfl rfl ?_
            refine AH.pass 14 rfl (by kernel_rfl) (by kernel_rfl) (by kernel_rfl) (fun _ _ _ _ h => h) ⟨hB, hG2⟩ (by decide) rfl rfl rfl ?_
            refine AH.take 15 rfl (by kernel_rfl) (by kernel_rfl) (by kernel_rfl) (fun _ _ _ _ h => h) ⟨hB, hG2⟩ (by decide) (fun w hS => R.pickF rfl rfl) ?_
            refine AH.take 16 rfl (by kernel_rfl) (by kernel_rfl) (by kernel_rfl) (fun _ _ _ _ h => h) ⟨hB, hG2⟩ (by decide) (fun w hS => R.assign rfl) ?_
            refine AH.done (by kernel_rfl) ?_
            refine EW.next ?_
            refine CW.ret ?_
            refine EW.inRet ?_
            refine EW.thenRet ?_
            refine EW.ret1 (.inl rfl) rfl rfl ⟨?_, (hC.trans (Chg.drew _ _))⟩
            exact congrArg (fun b => Ending.returned (.bool b)) (show _ = rightR r from by unfold rightR; first | (simp [*]; done) | (simp [*]; omega) | (simp [*]; intros; omega))
          · skip
            refine CW.draw (fun w => w.heap[w0.heap.size]? = some (.cells r.cells.toArray 57 (0, 0)) ∧ Glob w) (by kernel_rfl) ?_
            refine AH.take 0 rfl (by kernel_rfl) (by kernel_rfl) (by kernel_rfl) (fun _ _ _ _ h => h) ⟨hB, hG2⟩ (by decide) (fun w hS => FA57_4 rfl) ?_
            refine AH.take 1 rfl (by kernel_rfl) (by kernel_rfl) (by kernel_rfl) (fun _ _ _ _ h => h) ⟨hB, hG2⟩ (by decide) (fun w hS => R.load Tryd.underlying9 rfl rfl (cell_at hS.1 (Rec.at19 hadr))) ?_
            refine AH.take 2 rfl (by kernel_rfl) (by kernel_rfl) (by kernel_rfl) (fun _ _ _ _ h => h) ⟨hB, hG2⟩ (by decide) (fun w hS => R.eqlStrC (b := []) rfl rfl (decide_eq_true h1)) ?_
            refine AH.take 3 rfl (by kernel_rfl) (by kernel_rfl) (by kernel_rfl) (fun _ _ _ _ h => h) ⟨hB, hG2⟩ (by decide) (fun w hS => R.move rfl) ?_
            refine AH.takeG 4 rfl (by kernel_rfl) (by kernel_rfl) (by kernel_rfl) (fun _ _ _ _ h => h) ⟨hB, hG2⟩ (by decide) rfl rfl rfl (fun w hS => FA57_5 rfl) ?_
            refine AH.takeG 5 rfl (by kernel_rfl) (by kernel_rfl) (by kernel_rfl) (fun _ _ _ _ h => h) ⟨hB, hG2⟩ (by decide) rfl rfl rfl (fun w hS => R.load Tryd.underlying9 rfl rfl (cell_at hS.1 (Rec.at20 hadr))) ?_
            refine AH.takeG 6 rfl (by kernel_rfl) (by kernel_rfl) (by kernel_rfl) (fun _ _ _ _ h => h) ⟨hB, hG2⟩ (by decide) rfl rfl rfl (fun w hS => R.eqlStrC (b := []) rfl rfl (decide_eq_true h2)) ?_
            refine AH.take 7 rfl (by kernel_rfl) (by kernel_rfl) (by kernel_rfl) (fun _ _ _ _ h => h) ⟨hB, hG2⟩ (by decide) (fun w hS => R.pickT rfl rfl) ?_
            refine AH.take 8 rfl (by kernel_rfl) (by kernel_rfl) (by kernel_rfl) (fun _ _ _ _ h => h) ⟨hB, hG2⟩ (by decide) (fun w hS => R.move rfl) ?_
            refine AH.takeG 9 rfl (by kernel_rfl) (by kernel_rfl) (by kernel_rfl) (fun _ _ _ _ h => h) ⟨hB, hG2⟩ (by decide) rfl rfl rfl (fun w hS => FA57_3 rfl) ?_
            refine AH.takeG 10 rfl (by kernel_rfl) (by kernel_rfl) (by kernel_rfl) (fun _ _ _ _ h => h) ⟨hB, hG2⟩ (by decide) rfl rfl rfl (fun w hS => R.sliceArr (lv := none) (hv := some (.int .i64 12)) (l1 := 0) (h1 := 12) Tryd.underlying27 sz5 rfl rfl rfl (by kernel_rfl) (by decide)) ?_
            refine AH.takeG 11 rfl (by kernel_rfl) (by kernel_rfl) (by kernel_rfl) (fun _ _ _ _ h => h) ⟨hB, hG2⟩ (by decide) rfl rfl rfl (fun w hS => R.toArr Tryd.underlying108 rfl (by decide)) ?_
            refine AH.takeG 12 rfl (by kernel_rfl) (by kernel_rfl) (by kernel_rfl) (fun _ _ _ _ h => h) ⟨hB, hG2⟩ (by decide) rfl rfl rfl (fun w hS => R.loadAgg1 (cs := (r.addr.take 12).map u8v) Tryd.underlying108 rfl (by rw [List.length_map, List.length_take, hadr]; exact sz108) rfl (fun j u hj => cell_at hS.1 (by rw [Nat.zero_add, Nat.add_zero]; exact Rec.atAddr (take_map hj)))) ?_
            refine AH.takeG 13 rfl (by kernel_rfl) (by kernel_rfl) (by kernel_rfl) (fun _ _ _ _ h => h) ⟨hB, hG2⟩ (by decide) rfl rfl rfl (fun w hS => R.loadAgg1 (cs := mappedL.map u8v) Tryd.underlying108 rfl sz108 rfl (fun j u hj => by rw [Nat.zero_add]; exact hS.2 j u hj)) ?_
            refine AH.takeG 14 rfl (by kernel_rfl) (by kernel_rfl) (by kernel_rfl) (fun _ _ _ _ h => h) ⟨hB, hG2⟩ (by decide) rfl rfl rfl (fun w hS => R.eql108 (by rw [List.length_take, hadr]; rfl) rfl rfl rfl (decide_eq_false h3)) ?_
            refine AH.take 15 rfl (by kernel_rfl) (by kernel_rfl) (by kernel_rfl) (fun _ _ _ _ h => h) ⟨hB, hG2⟩ (by decide) (fun w hS => R.pickT rfl rfl) ?_
            refine AH.take 16 rfl (by kernel_rfl) (by kernel_rfl) (by kernel_rfl) (fun _ _ _ _ h => h) ⟨hB, hG2⟩ (by decide) (fun w hS => R.assign rfl) ?_
            refine AH.done (by kernel_rfl) ?_
            refine EW.next ?_
            refine CW.ret ?_
            refine EW.inRet ?_
            refine EW.thenRet ?_
            refine EW.ret1 (.inl rfl) rfl rfl ⟨?_, (hC.trans (Chg.drew _ _))⟩
            exact congrArg (fun b => Ending.returned (.bool b)) (show _ = rightR r from by unfold rightR; first | (simp [*]; done) | (simp [*]; omega) | (simp [*]; intros; omega))
          · skip
            refine CW.draw (fun w => w.heap[w0.heap.size]? = some (.cells r.cells.toArray 57 (0, 0)) ∧ Glob w) (by kernel_rfl) ?_
            refine AH.take 0 rfl (by kernel_rfl) (by kernel_rfl) (by kernel_rfl) (fun _ _ _ _ h => h) ⟨hB, hG2⟩ (by decide) (fun w hS => FA57_4 rfl) ?_
            refine AH.take 1 rfl (by kernel_rfl) (by kernel_rfl) (by kernel_rfl) (fun _ _ _ _ h => h) ⟨hB, hG2⟩ (by decide) (fun w hS => R.load Tryd.underlying9 rfl rfl (cell_at hS.1 (Rec.at19 hadr))) ?_
            refine AH.take 2 rfl (by kernel_rfl) (by kernel_rfl) (by kernel_rfl) (fun _ _ _ _ h => h) ⟨hB, hG2⟩ (by decide) (fun w hS => R.eqlStrC (b := []) rfl rfl (decide_eq_true h1)) ?_
            refine AH.take 3 rfl (by kernel_rfl) (by kernel_rfl) (by kernel_rfl) (fun _ _ _ _ h => h) ⟨hB, hG2⟩ (by decide) (fun w hS => R.move rfl) ?_
            refine AH.takeG 4 rfl (by kernel_rfl) (by kernel_rfl) (by kernel_rfl) (fun _ _ _ _ h => h) ⟨hB, hG2⟩ (by decide) rfl rfl rfl (fun w hS => FA57_5 rfl) ?_
            refine AH.takeG 5 rfl (by kernel_rfl) (by kernel_rfl) (by kernel_rfl) (fun _ _ _ _ h => h) ⟨hB, hG2⟩ (by decide) rfl rfl rfl (fun w hS => R.load Tryd.underlying9 rfl rfl (cell_at hS.1 (Rec.at20 hadr))) ?_
            refine AH.takeG 6 rfl (by kernel_rfl) (by kernel_rfl) (by kernel_rfl) (fun _ _ _ _ h => h) ⟨hB, hG2⟩ (by decide) rfl rfl rfl (fun w hS => R.eqlStrC (b := []) rfl rfl (decide_eq_true h2)) ?_
            refine AH.take 7 rfl (by kernel_rfl) (by kernel_rfl) (by kernel_rfl) (fun _ _ _ _ h => h) ⟨hB, hG2⟩ (by decide) (fun w hS => R.pickT rfl rfl) ?_
            refine AH.take 8 rfl (by kernel_rfl) (by kernel_rfl) (by kernel_rfl) (fun _ _ _ _ h => h) ⟨hB, hG2⟩ (by decide) (fun w hS => R.move rfl) ?_
            refine AH.takeG 9 rfl (by kernel_rfl) (by kernel_rfl) (by kernel_rfl) (fun _ _ _ _ h => h) ⟨hB, hG2⟩ (by decide) rfl rfl rfl (fun w hS => FA57_3 rfl) ?_
            refine AH.takeG 10 rfl (by kernel_rfl) (by kernel_rfl) (by kernel_rfl) (fun _ _ _ _ h => h) ⟨hB, hG2⟩ (by decide) rfl rfl rfl (fun w hS => R.sliceArr (lv := none) (hv := some (.int .i64 12)) (l1 := 0) (h1 := 12) Tryd.underlying27 sz5 rfl rfl rfl (by kernel_rfl) (by decide)) ?_
            refine AH.takeG 11 rfl (by kernel_rfl) (by kernel_rfl) (by kernel_rfl) (fun _ _ _ _ h => h) ⟨hB, hG2⟩ (by decide) rfl rfl rfl (fun w hS => R.toArr Tryd.underlying108 rfl (by decide)) ?_
            refine AH.takeG 12 rfl (by kernel_rfl) (by kernel_rfl) (by kernel_rfl) (fun _ _ _ _ h => h) ⟨hB, hG2⟩ (by decide) rfl rfl rfl (fun w hS => R.loadAgg1 (cs := (r.addr.take 12).map u8v) Tryd.underlying108 rfl (by rw [List.length_map, List.length_take, hadr]; exact sz108) rfl (fun j u hj => cell_at hS.1 (by rw [Nat.zero_add, Nat.add_zero]; exact Rec.atAddr (take_map hj)))) ?_
            refine AH.takeG 13 rfl (by kernel_rfl) (by kernel_rfl) (by kernel_rfl) (fun _ _ _ _ h => h) ⟨hB, hG2⟩ (by decide) rfl rfl rfl (fun w hS => R.loadAgg1 (cs := mappedL.map u8v) Tryd.underlying108 rfl sz108 rfl (fun j u hj => by rw [Nat.zero_add]; exact hS.2 j u hj)) ?_
            refine AH.takeG 14 rfl (by kernel_rfl) (by kernel_rfl) (by kernel_rfl) (fun _ _ _ _ h => h) ⟨hB, hG2⟩ (by decide) rfl rfl rfl (fun w hS => R.eql108 (by rw [List.length_take, hadr]; rfl) rfl rfl rfl (decide_eq_true h3)) ?_
            refine AH.take 15 rfl (by kernel_rfl) (by kernel_rfl) (by kernel_rfl) (fun _ _ _ _ h => h) ⟨hB, hG2⟩ (by decide) (fun w hS => R.pickT rfl rfl) ?_
            refine AH.take 16 rfl (by kernel_rfl) (by kernel_rfl) (by kernel_rfl) (fun _ _ _ _ h => h) ⟨hB, hG2⟩ (by decide) (fun w hS => R.assign rfl) ?_
            refine AH.done (by kernel_rfl) ?_
            refine EW.next ?_
            refine CW.ret ?_
            refine EW.inRet ?_
            refine EW.thenRet ?_
            refine EW.ret1 (.inl rfl) rfl rfl ⟨?_, (hC.trans (Chg.drew _ _))⟩
            exact congrArg (fun b => Ending.returned (.bool b)) (show _ = rightR r from by unfold rightR; first | (simp [*]; done) | (simp [*]; omega) | (simp [*]; intros; omega))
        · skip
          refine WL.op (by decide) (R.assign rfl) ?_
          refine WL.next ?_
          refine CW.condF rfl ?_
          refine CW.rseq ?_
          refine WL.eqlS (by decide) rfl rfl (fun h4 => ?_) (fun h4 => ?_)
          · skip
            refine WL.op (by decide) (R.assign rfl) ?_
            refine WL.next ?_
            refine CW.condT rfl ?_
            refine CW.rseq ?_
            refine WL.op (by decide) (FA57_4 rfl) ?_
            refine WL.op (by decide) (R.load Tryd.underlying9 rfl rfl (cell_at hB (Rec.at19 hadr))) ?_
            refine WL.split _ (by decide) (R.eqlStr rfl rfl) (fun h5 => ?_) (fun h5 => ?_)
            · skip
              refine WL.op (by decide) (R.move rfl) ?_
              refine WL.gop (by decide) rfl rfl rfl (FA57_5 rfl) ?_
              refine WL.gop (by decide) rfl rfl rfl (R.load Tryd.underlying9 rfl rfl (cell_at hB (Rec.at20 hadr))) ?_
              refine WL.gsplit _ (by decide) rfl rfl rfl (R.eqlStr rfl rfl) (fun h6 => ?_) (fun h6 => ?_)
              · skip
                refine WL.op (by decide) (R.pickT rfl rfl) ?_
                refine WL.op (by decide) (R.assign rfl) ?_
                refine WL.next ?_
                refine CW.ret ?_
                refine EW.inRet ?_
                refine EW.thenRet ?_
                refine EW.ret1 (.inl rfl) rfl rfl ⟨?_, hC⟩
                exact congrArg (fun b => Ending.returned (.bool b)) (show _ = rightR r from by unfold rightR; first | (simp [*]; done) | (simp [*]; omega) | (simp [*]; intros; omega))
              · skip
                refine WL.op (by decide) (R.pickT rfl rfl) ?_
                refine WL.op (by decide) (R.assign rfl) ?_
                refine WL.next ?_
                refine CW.ret ?_
                refine EW.inRet ?_
                refine EW.thenRet ?_
                refine EW.ret1 (.inl rfl) rfl rfl ⟨?_, hC⟩
                exact congrArg (fun b => Ending.returned (.bool b)) (show _ = rightR r from by unfold rightR; first | (simp [*]; done) | (simp [*]; omega) | (simp [*]; intros; omega))
            · skip
              refine WL.op (by decide) (R.move rfl) ?_
              refine WL.pass (by decide) rfl rfl rfl ?_
              refine WL.pass (by decide) rfl rfl rfl ?_
              refine WL.pass (by decide) rfl rfl rfl ?_
              refine WL.op (by decide) (R.pickF rfl rfl) ?_
              refine WL.op (by decide) (R.assign rfl) ?_
              refine WL.next ?_
              refine CW.ret ?_
              refine EW.inRet ?_
              refine EW.thenRet ?_
              refine EW.ret1 (.inl rfl) rfl rfl ⟨?_, hC⟩
              exact congrArg (fun b => Ending.returned (.bool b)) (show _ = rightR r from by unfold rightR; first | (simp [*]; done) | (simp [*]; omega) | (simp [*]; intros; omega))
          · skip
            refine WL.op (by decide) (R.assign rfl) ?_
            refine WL.next ?_
            refine CW.condF rfl ?_
            refine CW.seq ?_
            refine CW.rseq ?_
            refine WL.eqlS (by decide) rfl rfl (fun h7 => ?_) (fun h7 => ?_)
            · skip
              refine WL.op (by decide) (R.assign rfl) ?_
              refine WL.next ?_
              refine CW.condT rfl ?_
              refine CW.skip ?_
              refine EW.next ?_
              refine CW.condT rfl ?_
              refine CW.rseq ?_
              refine WL.op (by decide) (FA57_5 rfl) ?_
              refine WL.op (by decide) (R.load Tryd.underlying9 rfl rfl (cell_at hB (Rec.at20 hadr))) ?_
              refine WL.split _ (by decide) (R.eqlStr rfl rfl) (fun h8 => ?_) (fun h8 => ?_)
              · skip
                refine WL.op (by decide) (R.move rfl) ?_
                refine WL.gop (by decide) rfl rfl rfl (FA57_3 rfl) ?_
                refine WL.gop (by decide) rfl rfl rfl (R.loadAgg1 (cs := r.addr.map u8v) Tryd.underlying27 rfl (by rw [List.length_map, hadr]; exact sz27) rfl (fun j u hj => cell_at hB (by rw [Nat.zero_add]; exact Rec.atAddr hj))) ?_
                refine WL.gop (by decide) rfl rfl rfl (R.build27) ?_
                by_cases h9 : r.addr = zero16
                · skip
                  refine WL.gop (by decide) rfl rfl rfl (R.eql27 hadr rfl rfl rfl (decide_eq_true h9)) ?_
                  refine WL.op (by decide) (R.pickT rfl rfl) ?_
                  refine WL.op (by decide) (R.move rfl) ?_
                  refine WL.gop (by decide) rfl rfl rfl (FA57_4 rfl) ?_
                  refine WL.gop (by decide) rfl rfl rfl (R.load Tryd.underlying9 rfl rfl (cell_at hB (Rec.at19 hadr))) ?_
                  refine WL.geff rfl rfl rfl (OP.call (by decide) Tryd.func50 (by kernel_rfl) (by kernel_rfl) rfl (names_any r.text w2 hl2) ?_)
                  rintro e w3 ⟨rfl, hc3⟩
                  refine ⟨_, rfl, ?_⟩
                  have hC2 := hC.trans hc3
                  cases ht : namesL r.text
                  · skip
                    refine WL.op (by decide) (R.pickT rfl rfl) ?_
                    refine WL.op (by decide) (R.assign rfl) ?_
                    refine WL.next ?_
                    refine CW.ret ?_
                    refine EW.inRet ?_
                    refine EW.thenRet ?_
                    refine EW.ret1 (.inl rfl) rfl rfl ⟨?_, hC2⟩
                    exact congrArg (fun b => Ending.returned (.bool b)) (show _ = rightR r from by unfold rightR; first | (simp [*]; done) | (simp [*]; omega) | (simp [*]; intros; omega))
                  · skip
                    refine WL.op (by decide) (R.pickT rfl rfl) ?_
                    refine WL.op (by decide) (R.assign rfl) ?_
                    refine WL.next ?_
                    refine CW.ret ?_
                    refine EW.inRet ?_
                    refine EW.thenRet ?_
                    refine EW.ret1 (.inl rfl) rfl rfl ⟨?_, hC2⟩
                    exact congrArg (fun b => Ending.returned (.bool b)) (show _ = rightR r from by unfold rightR; first | (simp [*]; done) | (simp [*]; omega) | (simp [*]; intros; omega))
                · skip
                  refine WL.gop (by decide) rfl rfl rfl (R.eql27 hadr rfl rfl rfl (decide_eq_false h9)) ?_
                  refine WL.op (by decide) (R.pickT rfl rfl) ?_
                  refine WL.op (by decide) (R.move rfl) ?_
                  refine WL.pass (by decide) rfl rfl rfl ?_
                  refine WL.pass (by decide) rfl rfl rfl ?_
                  refine WL.pass (by decide) rfl rfl rfl ?_
                  refine WL.op (by decide) (R.pickF rfl rfl) ?_
                  refine WL.op (by decide) (R.assign rfl) ?_
                  refine WL.next ?_
                  refine CW.ret ?_
                  refine EW.inRet ?_
                  refine EW.thenRet ?_
                  refine EW.ret1 (.inl rfl) rfl rfl ⟨?_, hC⟩
                  exact congrArg (fun b => Ending.returned (.bool b)) (show _ = rightR r from by unfold rightR; first | (simp [*]; done) | (simp [*]; omega) | (simp [*]; intros; omega))
              · skip
                refine WL.op (by decide) (R.move rfl) ?_
                refine WL.pass (by decide) rfl rfl rfl ?_
                refine WL.pass (by decide) rfl rfl rfl ?_
                refine WL.pass (by decide) rfl rfl rfl ?_
                refine WL.pass (by decide) rfl rfl rfl ?_
                refine WL.op (by decide) (R.pickF rfl rfl) ?_
                refine WL.op (by decide) (R.move rfl) ?_
                refine WL.pass (by decide) rfl rfl rfl ?_
                refine WL.pass (by decide) rfl rfl rfl ?_
                refine WL.pass (by decide) rfl rfl rfl ?_
                refine WL.op (by decide) (R.pickF rfl rfl) ?_
                refine WL.op (by decide) (R.assign rfl) ?_
                refine WL.next ?_
                refine CW.ret ?_
                refine EW.inRet ?_
                refine EW.thenRet ?_
                refine EW.ret1 (.inl rfl) rfl rfl ⟨?_, hC⟩
                exact congrArg (fun b => Ending.returned (.bool b)) (show _ = rightR r from by unfold rightR; first | (simp [*]; done) | (simp [*]; omega) | (simp [*]; intros; omega))
            · skip
              refine WL.op (by decide) (R.assign rfl) ?_
              refine WL.next ?_
              refine CW.condF rfl ?_
              refine CW.rseq ?_
              refine WL.eqlS (by decide) rfl rfl (fun h10 => ?_) (fun h10 => ?_)
              · skip
                refine WL.op (by decide) (R.assign rfl) ?_
                refine WL.next ?_
                refine CW.condT rfl ?_
                refine CW.skip ?_
                refine EW.next ?_
                refine CW.condT rfl ?_
                refine CW.rseq ?_
                refine WL.op (by decide) (FA57_5 rfl) ?_
                refine WL.op (by decide) (R.load Tryd.underlying9 rfl rfl (cell_at hB (Rec.at20 hadr))) ?_
                refine WL.split _ (by decide) (R.eqlStr rfl rfl) (fun h11 => ?_) (fun h11 => ?_)
                · skip
                  refine WL.op (by decide) (R.move rfl) ?_
                  refine WL.gop (by decide) rfl rfl rfl (FA57_3 rfl) ?_
                  refine WL.gop (by decide) rfl rfl rfl (R.loadAgg1 (cs := r.addr.map u8v) Tryd.underlying27 rfl (by rw [List.length_map, hadr]; exact sz27) rfl (fun j u hj => cell_at hB (by rw [Nat.zero_add]; exact Rec.atAddr hj))) ?_
                  refine WL.gop (by decide) rfl rfl rfl (R.build27) ?_
                  by_cases h12 : r.addr = zero16
                  · skip
                    refine WL.gop (by decide) rfl rfl rfl (R.eql27 hadr rfl rfl rfl (decide_eq_true h12)) ?_
                    refine WL.op (by decide) (R.pickT rfl rfl) ?_
                    refine WL.op (by decide) (R.move rfl) ?_
                    refine WL.gop (by decide) rfl rfl rfl (FA57_4 rfl) ?_
                    refine WL.gop (by decide) rfl rfl rfl (R.load Tryd.underlying9 rfl rfl (cell_at hB (Rec.at19 hadr))) ?_
                    refine WL.geff rfl rfl rfl (OP.call (by decide) Tryd.func50 (by kernel_rfl) (by kernel_rfl) rfl (names_any r.text w2 hl2) ?_)
                    rintro e w3 ⟨rfl, hc3⟩
                    refine ⟨_, rfl, ?_⟩
                    have hC2 := hC.trans hc3
                    cases ht : namesL r.text
                    · skip
                      refine WL.op (by decide) (R.pickT rfl rfl) ?_
                      refine WL.op (by decide) (R.assign rfl) ?_
                      refine WL.next ?_
                      refine CW.ret ?_
                      refine EW.inRet ?_
                      refine EW.thenRet ?_
                      refine EW.ret1 (.inl rfl) rfl rfl ⟨?_, hC2⟩
                      exact congrArg (fun b => Ending.returned (.bool b)) (show _ = rightR r from by unfold rightR; first | (simp [*]; done) | (simp [*]; omega) | (simp [*]; intros; omega))
                    · skip
                      refine WL.op (by decide) (R.pickT rfl rfl) ?_
                      refine WL.op (by decide) (R.assign rfl) ?_
                      refine WL.next ?_
                      refine CW.ret ?_
                      refine EW.inRet ?_
                      refine EW.thenRet ?_
                      refine EW.ret1 (.inl rfl) rfl rfl ⟨?_, hC2⟩
                      exact congrArg (fun b => Ending.returned (.bool b)) (show _ = rightR r from by unfold rightR; first | (simp [*]; done) | (simp [*]; omega) | (simp [*]; intros; omega))
                  · skip
                    refine WL.gop (by decide) rfl rfl rfl (R.eql27 hadr rfl rfl rfl (decide_eq_false h12)) ?_
                    refine WL.op (by decide) (R.pickT rfl rfl) ?_
                    refine WL.op (by decide) (R.move rfl) ?_
                    refine WL.pass (by decide) rfl rfl rfl ?_
                    refine WL.pass (by decide) rfl rfl rfl ?_
                    refine WL.pass (by decide) rfl rfl rfl ?_
                    refine WL.op (by decide) (R.pickF rfl rfl) ?_
                    refine WL.op (by decide) (R.assign rfl) ?_
                    refine WL.next ?_
                    refine CW.ret ?_
                    refine EW.inRet ?_
                    refine EW.thenRet ?_
                    refine EW.ret1 (.inl rfl) rfl rfl ⟨?_, hC⟩
                    exact congrArg (fun b => Ending.returned (.bool b)) (show _ = rightR r from by unfold rightR; first | (simp [*]; done) | (simp [*]; omega) | (simp [*]; intros; omega))
                · skip
                  refine WL.op (by decide) (R.move rfl) ?_
                  refine WL.pass (by decide) rfl rfl rfl ?_
                  refine WL.pass (by decide) rfl rfl rfl ?_
                  refine WL.pass (by decide) rfl rfl rfl ?_
                  refine WL.pass (by decide) rfl rfl rfl ?_
                  refine WL.op (by decide) (R.pickF rfl rfl) ?_
                  refine WL.op (by decide) (R.move rfl) ?_
                  refine WL.pass (by decide) rfl rfl rfl ?_
                  refine WL.pass (by decide) rfl rfl rfl ?_
                  refine WL.pass (by decide) rfl rfl rfl ?_
                  refine WL.op (by decide) (R.pickF rfl rfl) ?_
                  refine WL.op (by decide) (R.assign rfl) ?_
                  refine WL.next ?_
                  refine CW.ret ?_
                  refine EW.inRet ?_
                  refine EW.thenRet ?_
                  refine EW.ret1 (.inl rfl) rfl rfl ⟨?_, hC⟩
                  exact congrArg (fun b => Ending.returned (.bool b)) (show _ = rightR r from by unfold rightR; first | (simp [*]; done) | (simp [*]; omega) | (simp [*]; intros; omega))
              · skip
                refine WL.op (by decide) (R.assign rfl) ?_
                refine WL.next ?_
                refine CW.condF rfl ?_
                refine CW.region ?_
                refine WL.eqlS (by decide) rfl rfl (fun h13 => ?_) (fun h13 => ?_)
                · skip
                  refine WL.op (by decide) (R.assign rfl) ?_
                  refine WL.nil ?_
                  refine EW.next ?_
                  refine CW.condT rfl ?_
                  refine CW.rseq ?_
                  refine WL.op (by decide) (FA57_5 rfl) ?_
                  refine WL.op (by decide) (R.load Tryd.underlying9 rfl rfl (cell_at hB (Rec.at20 hadr))) ?_
                  refine WL.split _ (by decide) (R.eqlStr rfl rfl) (fun h14 => ?_) (fun h14 => ?_)
                  · skip
                    refine WL.op (by decide) (R.move rfl) ?_
                    refine WL.gop (by decide) rfl rfl rfl (FA57_3 rfl) ?_
                    refine WL.gop (by decide) rfl rfl rfl (R.loadAgg1 (cs := r.addr.map u8v) Tryd.underlying27 rfl (by rw [List.length_map, hadr]; exact sz27) rfl (fun j u hj => cell_at hB (by rw [Nat.zero_add]; exact Rec.atAddr hj))) ?_
                    refine WL.gop (by decide) rfl rfl rfl (R.build27) ?_
                    by_cases h15 : r.addr = zero16
                    · skip
                      refine WL.gop (by decide) rfl rfl rfl (R.eql27 hadr rfl rfl rfl (decide_eq_true h15)) ?_
                      refine WL.op (by decide) (R.pickT rfl rfl) ?_
                      refine WL.op (by decide) (R.move rfl) ?_
                      refine WL.gop (by decide) rfl rfl rfl (FA57_4 rfl) ?_
                      refine WL.gop (by decide) rfl rfl rfl (R.load Tryd.underlying9 rfl rfl (cell_at hB (Rec.at19 hadr))) ?_
                      refine WL.geff rfl rfl rfl (OP.call (by decide) Tryd.func50 (by kernel_rfl) (by kernel_rfl) rfl (names_any r.text w2 hl2) ?_)
                      rintro e w3 ⟨rfl, hc3⟩
                      refine ⟨_, rfl, ?_⟩
                      have hC2 := hC.trans hc3
                      cases ht : namesL r.text
                      · skip
                        refine WL.op (by decide) (R.pickT rfl rfl) ?_
                        refine WL.op (by decide) (R.assign rfl) ?_
                        refine WL.next ?_
                        refine CW.ret ?_
                        refine EW.inRet ?_
                        refine EW.thenRet ?_
                        refine EW.ret1 (.inl rfl) rfl rfl ⟨?_, hC2⟩
                        exact congrArg (fun b => Ending.returned (.bool b)) (show _ = rightR r from by unfold rightR; first | (simp [*]; done) | (simp [*]; omega) | (simp [*]; intros; omega))
                      · skip
                        refine WL.op (by decide) (R.pickT rfl rfl) ?_
                        refine WL.op (by decide) (R.assign rfl) ?_
                        refine WL.next ?_
                        refine CW.ret ?_
                        refine EW.inRet ?_
                        refine EW.thenRet ?_
                        refine EW.ret1 (.inl rfl) rfl rfl ⟨?_, hC2⟩
                        exact congrArg (fun b => Ending.returned (.bool b)) (show _ = rightR r from by unfold rightR; first | (simp [*]; done) | (simp [*]; omega) | (simp [*]; intros; omega))
                    · skip
                      refine WL.gop (by decide) rfl rfl rfl (R.eql27 hadr rfl rfl rfl (decide_eq_false h15)) ?_
                      refine WL.op (by decide) (R.pickT rfl rfl) ?_
                      refine WL.op (by decide) (R.move rfl) ?_
                      refine WL.pass (by decide) rfl rfl rfl ?_
                      refine WL.pass (by decide) rfl rfl rfl ?_
                      refine WL.pass (by decide) rfl rfl rfl ?_
                      refine WL.op (by decide) (R.pickF rfl rfl) ?_
                      refine WL.op (by decide) (R.assign rfl) ?_
                      refine WL.next ?_
                      refine CW.ret ?_
                      refine EW.inRet ?_
                      refine EW.thenRet ?_
                      refine EW.ret1 (.inl rfl) rfl rfl ⟨?_, hC⟩
                      exact congrArg (fun b => Ending.returned (.bool b)) (show _ = rightR r from by unfold rightR; first | (simp [*]; done) | (simp [*]; omega) | (simp [*]; intros; omega))
                  · skip
                    refine WL.op (by decide) (R.move rfl) ?_
                    refine WL.pass (by decide) rfl rfl rfl ?_
                    refine WL.pass (by decide) rfl rfl rfl ?_
                    refine WL.pass (by decide) rfl rfl rfl ?_
                    refine WL.pass (by decide) rfl rfl rfl ?_
                    refine WL.op (by decide) (R.pickF rfl rfl) ?_
                    refine WL.op (by decide) (R.move rfl) ?_
                    refine WL.pass (by decide) rfl rfl rfl ?_
                    refine WL.pass (by decide) rfl rfl rfl ?_
                    refine WL.pass (by decide) rfl rfl rfl ?_
                    refine WL.op (by decide) (R.pickF rfl rfl) ?_
                    refine WL.op (by decide) (R.assign rfl) ?_
                    refine WL.next ?_
                    refine CW.ret ?_
                    refine EW.inRet ?_
                    refine EW.thenRet ?_
                    refine EW.ret1 (.inl rfl) rfl rfl ⟨?_, hC⟩
                    exact congrArg (fun b => Ending.returned (.bool b)) (show _ = rightR r from by unfold rightR; first | (simp [*]; done) | (simp [*]; omega) | (simp [*]; intros; omega))
                · skip
                  refine WL.op (by decide) (R.assign rfl) ?_
                  refine WL.nil ?_
                  refine EW.next ?_
                  refine CW.condF rfl ?_
                  refine CW.skip ?_
                  refine EW.inNormal ?_
                  refine EW.next ?_
                  refine CW.rseq ?_
                  refine WL.op (by decide) (FA57_1 rfl) ?_
                  refine WL.op (by decide) (R.load Tryd.underlying3 rfl rfl (cell_at hB r.at1)) ?_
                  refine WL.gtrS (by decide) rfl rfl (fun h16 => ?_) (fun h16 => ?_)
                  · skip
                    refine WL.op (by decide) (R.move rfl) ?_
                    refine WL.gop (by decide) rfl rfl rfl (FA57_1 rfl) ?_
                    refine WL.gop (by decide) rfl rfl rfl (R.load Tryd.underlying3 rfl rfl (cell_at hB r.at1)) ?_
                    refine WL.gsplit _ (by decide) rfl rfl rfl (R.lssD rfl rfl) (fun h17 => ?_) (fun h17 => ?_)
                    · skip
                      refine WL.op (by decide) (R.pickT rfl rfl) ?_
                      refine WL.op (by decide) (R.move rfl) ?_
                      refine WL.gop (by decide) rfl rfl rfl (FA57_4 rfl) ?_
                      refine WL.gop (by decide) rfl rfl rfl (R.load Tryd.underlying9 rfl rfl (cell_at hB (Rec.at19 hadr))) ?_
                      refine WL.gsplit _ (by decide) rfl rfl rfl (R.eqlStr rfl rfl) (fun h18 => ?_) (fun h18 => ?_)
                      · skip
                        refine WL.op (by decide) (R.pickT rfl rfl) ?_
                        refine WL.op (by decide) (R.move rfl) ?_
                        refine WL.gop (by decide) rfl rfl rfl (FA57_3 rfl) ?_
                        refine WL.gop (by decide) rfl rfl rfl (R.loadAgg1 (cs := r.addr.map u8v) Tryd.underlying27 rfl (by rw [List.length_map, hadr]; exact sz27) rfl (fun j u hj => cell_at hB (by rw [Nat.zero_add]; exact Rec.atAddr hj))) ?_
                        refine WL.gop (by decide) rfl rfl rfl (R.build27) ?_
                        by_cases h19 : r.addr = zero16
                        · skip
                          refine WL.gop (by decide) rfl rfl rfl (R.eql27 hadr rfl rfl rfl (decide_eq_true h19)) ?_
                          refine WL.op (by decide) (R.pickT rfl rfl) ?_
                          refine WL.op (by decide) (R.move rfl) ?_
                          refine WL.gop (by decide) rfl rfl rfl (FA57_5 rfl) ?_
                          refine WL.gop (by decide) rfl rfl rfl (R.load Tryd.underlying9 rfl rfl (cell_at hB (Rec.at20 hadr))) ?_
                          refine WL.gop (by decide) rfl rfl rfl (R.lenS rfl rfl) ?_
                          refine WL.gsplit _ (by decide) rfl rfl rfl (R.leqD rfl rfl) (fun h20 => ?_) (fun h20 => ?_)
                          · skip
                            refine WL.op (by decide) (R.pickT rfl rfl) ?_
                            refine WL.op (by decide) (R.assign rfl) ?_
                            refine WL.next ?_
                            refine CW.ret ?_
                            refine EW.ret1 (.inl rfl) rfl rfl ⟨?_, hC⟩
                            exact congrArg (fun b => Ending.returned (.bool b)) (show _ = rightR r from by unfold rightR; first | (simp [*]; done) | (simp [*]; omega) | (simp [*]; intros; omega))
                          · skip
                            refine WL.op (by decide) (R.pickT rfl rfl) ?_
                            refine WL.op (by decide) (R.assign rfl) ?_
                            refine WL.next ?_
                            refine CW.ret ?_
                            refine EW.ret1 (.inl rfl) rfl rfl ⟨?_, hC⟩
                            exact congrArg (fun b => Ending.returned (.bool b)) (show _ = rightR r from by unfold rightR; first | (simp [*]; done) | (simp [*]; omega) | (simp [*]; intros; omega))
                        · skip
                          refine WL.gop (by decide) rfl rfl rfl (R.eql27 hadr rfl rfl rfl (decide_eq_false h19)) ?_
                          refine WL.op (by decide) (R.pickT rfl rfl) ?_
                          refine WL.op (by decide) (R.move rfl) ?_
                          refine WL.pass (by decide) rfl rfl rfl ?_
                          refine WL.pass (by decide) rfl rfl rfl ?_
                          refine WL.pass (by decide) rfl rfl rfl ?_
                          refine WL.pass (by decide) rfl rfl rfl ?_
                          refine WL.op (by decide) (R.pickF rfl rfl) ?_
                          refine WL.op (by decide) (R.assign rfl) ?_
                          refine WL.next ?_
                          refine CW.ret ?_
                          refine EW.ret1 (.inl rfl) rfl rfl ⟨?_, hC⟩
                          exact congrArg (fun b => Ending.returned (.bool b)) (show _ = rightR r from by unfold rightR; first | (simp [*]; done) | (simp [*]; omega) | (simp [*]; intros; omega))
                      · skip
                        refine WL.op (by decide) (R.pickT rfl rfl) ?_
                        refine WL.op (by decide) (R.move rfl) ?_
                        refine WL.pass (by decide) rfl rfl rfl ?_
                        refine WL.pass (by decide) rfl rfl rfl ?_
                        refine WL.pass (by decide) rfl rfl rfl ?_
                        refine WL.pass (by decide) rfl rfl rfl ?_
                        refine WL.op (by decide) (R.pickF rfl rfl) ?_
                        refine WL.op (by decide) (R.move rfl) ?_
                        refine WL.pass (by decide) rfl rfl rfl ?_
                        refine WL.pass (by decide) rfl rfl rfl ?_
                        refine WL.pass (by decide) rfl rfl rfl ?_
                        refine WL.pass (by decide) rfl rfl rfl ?_
                        refine WL.op (by decide) (R.pickF rfl rfl) ?_
                        refine WL.op (by decide) (R.assign rfl) ?_
                        refine WL.next ?_
                        refine CW.ret ?_
                        refine EW.ret1 (.inl rfl) rfl rfl ⟨?_, hC⟩
                        exact congrArg (fun b => Ending.returned (.bool b)) (show _ = rightR r from by unfold rightR; first | (simp [*]; done) | (simp [*]; omega) | (simp [*]; intros; omega))
                    · skip
                      refine WL.op (by decide) (R.pickT rfl rfl) ?_
                      refine WL.op (by decide) (R.move rfl) ?_
                      refine WL.pass (by decide) rfl rfl rfl ?_
                      refine WL.pass (by decide) rfl rfl rfl ?_
                      refine WL.pass (by decide) rfl rfl rfl ?_
                      refine WL.op (by decide) (R.pickF rfl rfl) ?_
                      refine WL.op (by decide) (R.move rfl) ?_
                      refine WL.pass (by decide) rfl rfl rfl ?_
                      refine WL.pass (by decide) rfl rfl rfl ?_
                      refine WL.pass (by decide) rfl rfl rfl ?_
                      refine WL.pass (by decide) rfl rfl rfl ?_
                      refine WL.op (by decide) (R.pickF rfl rfl) ?_
                      refine WL.op (by decide) (R.move rfl) ?_
                      refine WL.pass (by decide) rfl rfl rfl ?_
                      refine WL.pass (by decide) rfl rfl rfl ?_
                      refine WL.pass (by decide) rfl rfl rfl ?_
                      refine WL.pass (by decide) rfl rfl rfl ?_
                      refine WL.op (by decide) (R.pickF rfl rfl) ?_
                      refine WL.op (by decide) (R.assign rfl) ?_
                      refine WL.next ?_
                      refine CW.ret ?_
                      refine EW.ret1 (.inl rfl) rfl rfl ⟨?_, hC⟩
                      exact congrArg (fun b => Ending.returned (.bool b)) (show _ = rightR r from by unfold rightR; first | (simp [*]; done) | (simp [*]; omega) | (simp [*]; intros; omega))
                  · skip
                    refine WL.op (by decide) (R.move rfl) ?_
                    refine WL.pass (by decide) rfl rfl rfl ?_
                    refine WL.pass (by decide) rfl rfl rfl ?_
                    refine WL.pass (by decide) rfl rfl rfl ?_
                    refine WL.op (by decide) (R.pickF rfl rfl) ?_
                    refine WL.op (by decide) (R.move rfl) ?_
                    refine WL.pass (by decide) rfl rfl rfl ?_
                    refine WL.pass (by decide) rfl rfl rfl ?_
                    refine WL.pass (by decide) rfl rfl rfl ?_
                    refine WL.op (by decide) (R.pickF rfl rfl) ?_
                    refine WL.op (by decide) (R.move rfl) ?_
                    refine WL.pass (by decide) rfl rfl rfl ?_
                    refine WL.pass (by decide) rfl rfl rfl ?_
                    refine WL.pass (by decide) rfl rfl rfl ?_
                    refine WL.pass (by decide) rfl rfl rfl ?_
                    refine WL.op (by decide) (R.pickF rfl rfl) ?_
                    refine WL.op (by decide) (R.move rfl) ?_
                    refine WL.pass (by decide) rfl rfl rfl ?_
                    refine WL.pass (by decide) rfl rfl rfl ?_
                    refine WL.pass (by decide) rfl rfl rfl ?_
                    refine WL.pass (by decide) rfl rfl rfl ?_
                    refine WL.op (by decide) (R.pickF rfl rfl) ?_
                    refine WL.op (by decide) (R.assign rfl) ?_
                    refine WL.next ?_
                    refine CW.ret ?_
                    refine EW.ret1 (.inl rfl) rfl rfl ⟨?_, hC⟩
                    exact congrArg (fun b => Ending.returned (.bool b)) (show _ = rightR r from by unfold rightR; first | (simp [*]; done) | (simp [*]; omega) | (simp [*]; intros; omega))
end Go.Proofs.YthcpjcgjmdfpjaaDoor

namespace Go.Proofs.YthcpjcgjmdfpjaaDoor
open Go Go.RowKit
set_option maxRecDepth 100000

theorem list16 {α : Type} {l : List α} (h : l.length = 16) : ∃ a0 a1 a2 a3 a4 a5 a6 a7 a8 a9 b0 b1 b2 b3 b4 b5, l = [a0, a1, a2, a3, a4, a5, a6, a7, a8, a9, b0, b1, b2, b3, b4, b5] := by
  match l, h with
  | [a0, a1, a2, a3, a4, a5, a6, a7, a8, a9, b0, b1, b2, b3, b4, b5], _ => exact ⟨a0, a1, a2, a3, a4, a5, a6, a7, a8, a9, b0, b1, b2, b3, b4, b5, rfl⟩

theorem Rec.one (r : Rec) : ∀ u ∈ r.cells, u.oneCell' = true := by
  intro u hu
  simp only [Rec.cells, List.mem_cons, List.mem_append, List.mem_map, List.not_mem_nil, or_false] at hu
  rcases hu with rfl | rfl | rfl | ⟨c, _, rfl⟩ | rfl | rfl <;> rfl
theorem Rec.allOne (r : Rec) : r.cells.toArray.all (·.oneCell') = true := by
  rw [Array.all_eq_true_iff_forall_mem]
  intro u hu
  exact r.one u (by simpa using hu)
theorem Rec.cells_of_val (r : Rec) : r.val.cells = r.cells.toArray := rfl

theorem Rec.set2 (r : Rec) (x : Int) : r.cells.toArray.setIfInBounds 2 (.int .i64 x) = ({ r with ttl := x } : Rec).cells.toArray := by
  simp [Rec.cells]
theorem Rec.set19 {r : Rec} (h : r.addr.length = 16) (x : List UInt8) : r.cells.toArray.setIfInBounds 19 (sv x) = ({ r with text := x } : Rec).cells.toArray := by
  obtain ⟨n, t, l, a, x0, d⟩ := r
  obtain ⟨a0, a1, a2, a3, a4, a5, a6, a7, a8, a9, b0, b1, b2, b3, b4, b5, rfl⟩ := list16 h
  rfl
theorem Rec.set20 {r : Rec} (h : r.addr.length = 16) (x : List UInt8) : r.cells.toArray.setIfInBounds 20 (sv x) = ({ r with data := x } : Rec).cells.toArray := by
  obtain ⟨n, t, l, a, x0, d⟩ := r
  obtain ⟨a0, a1, a2, a3, a4, a5, a6, a7, a8, a9, b0, b1, b2, b3, b4, b5, rfl⟩ := list16 h
  rfl
theorem Rec.setAddr {r : Rec} (h : r.addr.length = 16) {a : List UInt8} (ha : a.length = 16) : (r.cells.toArray.toList.take 3 ++ a.map u8v ++ r.cells.toArray.toList.drop (3 + 16)).toArray = ({ r with addr := a } : Rec).cells.toArray := by
  obtain ⟨n, t, l, a', x0, d⟩ := r
  obtain ⟨a0, a1, a2, a3, a4, a5, a6, a7, a8, a9, b0, b1, b2, b3, b4, b5, rfl⟩ := list16 h
  obtain ⟨c0, c1, c2, c3, c4, c5, c6, c7, c8, c9, d0, d1, d2, d3, d4, d5, rfl⟩ := list16 ha
  rfl

/-- Records side by side. -/
def flatR (rs : List Rec) : List Value := rs.flatMap Rec.cells
def OkA (rs : List Rec) : Prop := ∀ r ∈ rs, r.addr.length = 16
theorem OkA.nil : OkA [] := fun _ h => by cases h
theorem OkA.snoc {rs : List Rec} {r : Rec} (h : OkA rs) (hr : r.addr.length = 16) : OkA (rs ++ [r]) := by
  intro x hx
  rcases List.mem_append.1 hx with h1 | h1
  · exact h x h1
  · rw [List.mem_singleton.1 h1]; exact hr
theorem OkA.at {rs : List Rec} (h : OkA rs) {j : Nat} {r : Rec} (hj : rs[j]? = some r) : r.addr.length = 16 := h r (List.mem_of_getElem? hj)
theorem flatR_snoc (rs : List Rec) (r : Rec) : flatR (rs ++ [r]) = flatR rs ++ r.cells := by simp [flatR]
theorem flatR_length {rs : List Rec} (h : OkA rs) : (flatR rs).length = rs.length * 21 := by
  induction rs with
  | nil => rfl
  | cons r rs ih =>
    have h1 := Rec.length (h r (by simp))
    have h2 := ih (fun x hx => h x (by simp [hx]))
    simp only [flatR, List.flatMap_cons, List.length_append, List.length_cons] at h2 ⊢
    rw [h1, h2]; omega
theorem flatR_at {rs : List Rec} (h : OkA rs) {j i : Nat} {r : Rec} {u : Value} (hj : rs[j]? = some r) (hi : r.cells[i]? = some u) : (flatR rs)[j * 21 + i]? = some u := by
  induction rs generalizing j with
  | nil => simp at hj
  | cons q rs ih =>
    have hq := Rec.length (h q (by simp))
    cases j with
    | zero =>
      simp at hj; subst hj
      rw [Nat.zero_mul, Nat.zero_add]
      simp only [flatR, List.flatMap_cons]
      rw [List.getElem?_append_left (List.getElem?_eq_some_iff.1 hi).1]; exact hi
    | succ j =>
      have := ih (fun x hx => h x (by simp [hx])) (j := j) (by simpa using hj)
      simp only [flatR, List.flatMap_cons] at this ⊢
      rw [List.getElem?_append_right (by omega), hq, show (j + 1) * 21 + i - 21 = j * 21 + i by omega]
      exact this
theorem flatR_one (rs : List Rec) : ∀ u ∈ flatR rs, u.oneCell' = true := by
  intro u hu
  obtain ⟨r, _, h2⟩ := List.mem_flatMap.1 hu
  exact r.one u h2

/-- A slice of records that one may read. -/
def RSl (w : World) (v : Value) (rs : List Rec) : Prop :=
  OkA rs ∧ ∃ A c, v = .slice A rs.length c ∧ rs.length ≤ c ∧ (rs ≠ [] → ∃ g o, A = some ⟨g, o, none⟩ ∧ ∀ j u, (flatR rs)[j]? = some u → w.cell? ⟨g, o + j, none⟩ = some u)
/-- One that is owned: appends may go on in it. -/
def RBuf (w : World) (base : Nat) (v : Value) (rs : List Rec) : Prop := OkA rs ∧ w.ownsRow base 57 21 v rs.length (flatR rs)

theorem RSl.nil (w : World) : RSl w (.slice none 0 0) [] := ⟨OkA.nil, none, 0, rfl, Nat.le_refl _, fun h => absurd rfl h⟩
theorem RBuf.nil (w : World) (base : Nat) : RBuf w base (.slice none 0 0) [] := ⟨OkA.nil, World.ownsRow_nil _ _ _ _⟩
theorem RSl.kept {w w' : World} {S : Nat → Prop} {v : Value} {rs : List Rec} (h : RSl w v rs) (hc : Chg S w w') (hn : ∀ k, v.ownBlock = some k → ¬ S k) : RSl w' v rs := by
  obtain ⟨hk, A, c, rfl, hl, hm⟩ := h
  refine ⟨hk, A, c, rfl, hl, fun h0 => ?_⟩
  obtain ⟨g, o, rfl, hcell⟩ := hm h0
  exact ⟨g, o, rfl, fun j u hj => cell_chg hc (hcell j u hj) (hn g rfl)⟩
theorem RBuf.kept {w w' : World} {base : Nat} {v : Value} {rs : List Rec} {S : Nat → Prop} (h : RBuf w base v rs) (hc : Chg S w w') (hn : ∀ k, v.ownBlock = some k → ¬ S k) : RBuf w' base v rs := by
  refine ⟨h.1, h.2.1, ?_⟩
  rcases h.2.2 with h2 | ⟨g, cap, cur, rfl, hb, hg, r⟩
  · exact .inl h2
  · exact .inr ⟨g, cap, cur, rfl, hb, hc.at hg (hn g rfl), r⟩
theorem RBuf.lt {w : World} {base : Nat} {v : Value} {rs : List Rec} (h : RBuf w base v rs) : ∀ k, v.ownBlock = some k → base ≤ k ∧ k < w.heap.size := World.ownsRow.lt h.2
theorem RBuf.sl {w : World} {base : Nat} {v : Value} {rs : List Rec} (h : RBuf w base v rs) : RSl w v rs := by
  refine ⟨h.1, ?_⟩
  have hcells := h.2
  rcases h.2.2 with ⟨rfl, h0⟩ | ⟨g, cap, cur, rfl, hb, hg, hle, r⟩
  · have := List.eq_nil_of_length_eq_zero h0
    subst this
    exact ⟨none, 0, rfl, Nat.le_refl _, fun h => absurd rfl h⟩
  · refine ⟨some ⟨g, 0, none⟩, cap, rfl, hle, fun _ => ⟨g, 0, rfl, fun j u hj => ?_⟩⟩
    have := World.ownsRow.cells hcells (g := g) rfl j u hj
    rwa [Addr.add_none] at this
theorem RSl.form {w : World} {v : Value} {rs : List Rec} (h : RSl w v rs) : ∃ A c, v = .slice A rs.length c ∧ rs.length ≤ c := by
  obtain ⟨_, A, c, h1, h2, _⟩ := h; exact ⟨A, c, h1, h2⟩
/-- Reading one. -/
theorem RSl.at {w : World} {A : Option Addr} {m c : Nat} {rs : List Rec} (h : RSl w (.slice A m c) rs) {j : Nat} {r : Rec} (hj : rs[j]? = some r) : r.addr.length = 16 ∧ m = rs.length ∧ ∃ g o, A = some ⟨g, o, none⟩ ∧ ∀ i u, r.cells[i]? = some u → w.cell? ⟨g, o + j * 21 + i, none⟩ = some u := by
  obtain ⟨hk, A', c', he, hl, hm⟩ := h
  injection he with e1 e2 e3
  subst e1 e2 e3
  obtain ⟨g, o, rfl, hcell⟩ := hm (by intro h0; subst h0; simp at hj)
  refine ⟨hk.at hj, rfl, g, o, rfl, fun i u hi => ?_⟩
  rw [Nat.add_assoc]
  exact hcell _ u (flatR_at hk hj hi)

theorem buildSlice_rec {r : Rec} (h : r.addr.length = 16) (w : World) : (Instr.buildSlice 31 1 #[(0, r.val)]).run Tryd.prog w = .ok (.slice (some ⟨w.heap.size, 0, none⟩) 1 1) (w.alloc (.cells r.cells.toArray 57)) := by
  obtain ⟨n, t, l, a, x0, d⟩ := r
  obtain ⟨a0, a1, a2, a3, a4, a5, a6, a7, a8, a9, b0, b1, b2, b3, b4, b5, rfl⟩ := list16 h
  kernel_rfl
section
variable {Q : Exit → Act → World → Prop} {n : Nat} {l : Env} {w : World} {M : Env → World → Prop} {t : TypeId} {pos : String} {af : Array Edge} {d : Nat} {x y : Operand} {base : Nat} {v : Value} {rs : List Rec} {r : Rec}
theorem OP.buildSliceR (hdn : d < n) (hx : ev l x = some r.val) (hr : r.addr.length = 16)
    (h : ∀ w', Chg (fun _ => False) w w' → w'.heap.size = w.heap.size + 1 → w'.heap[w.heap.size]? = some (.cells r.cells.toArray 57 (0, 0)) → M ((d, .slice (some ⟨w.heap.size, 0, none⟩) 1 1) :: l) w') :
    OP Tryd.prog Q ⟨some d, .buildSlice 31 1 #[(0, x)], t, pos, af, none⟩ n l w M :=
  OP.buildSlice (parts := [(0, x)]) (vals := [(0, r.val)]) hdn (by simp [evp, hx]) (buildSlice_rec hr) h
theorem zero57 : (Tryd.prog.info? 57).map (fun i => (i.zero, i.size, i.bytes)) = some (some (Rec.val ⟨[], 0, 0, zero16, [], []⟩), 21, 80) := by kernel_rfl
theorem OP.appendR {g c : Nat} (hdn : d < n) (hx : ev l x = some v) (hy : ev l y = some (.slice (some ⟨g, 0, none⟩) 1 c)) (hB : RBuf w base v rs) (hr16 : r.addr.length = 16) (hg : w.heap[g]? = some (.cells r.cells.toArray 57 (0, 0)))
    (hl : (rs.length + 1) * 80 ≤ 140737488355328) (hb : base ≤ w.heap.size)
    (h : ∀ v' w', RBuf w' base v' (rs ++ [r]) → Moved w w' v v' → M ((d, v') :: l) w') :
    OP Tryd.prog Q ⟨some d, .call { callee := .builtin .append, args := #[x, y], argTypes := #[31, 31] }, t, pos, af, none⟩ n l w M := by
  obtain ⟨i0, hi, hz0, hz1, hz2⟩ := info_parts zero57
  have hnews : ∀ j u, r.cells[j]? = some u → w.cell? ((⟨g, 0, none⟩ : Addr).add j) = some u := by
    intro j u hj
    rw [Addr.add_none, Nat.zero_add]
    exact cell_at hg (by rw [List.getElem?_toArray]; exact hj)
  obtain ⟨v', w', hr, h2, h3, _, h5⟩ := run_append_own_at (P := Tryd.prog) w base 31 t 57 i0 _ 21 80 Tryd.underlying31 hi hz0 hz1 hz2 rfl (by decide) v rs.length (flatR rs) hB.2 ⟨g, 0, none⟩ 1 c r.cells (by rw [Rec.length hr16]) hnews r.one (by unfold maxLen; omega) (by omega) hb
  refine OP.val (v := v') (w' := w') hdn (fun r _ _ _ _ _ he => ?_) (h v' w' ?_ ⟨h3, h5.imp id (fun e => ⟨_, e, Nat.le_refl _⟩)⟩)
  · simp only [execOp, resolve, invoke, builtin, Sem.run_bind, Sem.run_pure, Result.andThen_ok, List.map_toArray, List.map_cons, List.map_nil, he x _ hx, he y _ hy]
    have e1 : ∀ ty, (Builtin.append_ #[31, 31] ty #[v, .slice (some ⟨g, 0, none⟩) 1 c]).run Tryd.prog w = (Builtin.append_ #[31, 31] t #[v, .slice (some ⟨g, 0, none⟩) 1 c]).run Tryd.prog w := fun _ => rfl
    rw [e1, hr]; rfl
  · refine ⟨hB.1.snoc hr16, ?_⟩
    rw [List.length_append, flatR_snoc]; exact h2
theorem OP.allocR (hdn : d < n) (h : ∀ w', Chg (fun _ => False) w w' → w'.heap.size = w.heap.size + 1 → w'.heap[w.heap.size]? = some (.cells (Rec.cells ⟨[], 0, 0, zero16, [], []⟩).toArray 57 (0, 0)) → M ((d, .pointer (some ⟨w.heap.size, 0, none⟩)) :: l) w') :
    OP Tryd.prog Q ⟨some d, .alloc 57, t, pos, af, none⟩ n l w M :=
  OP.alloc1 (Rec.val ⟨[], 0, 0, zero16, [], []⟩) hdn (by kernel_rfl) h
/-- A whole record stored over another. -/
theorem OP.storeR {b : Nat} {r0 : Rec} {ty : TypeId} (hx : ev l x = some (.pointer (some ⟨b, 0, none⟩))) (hy : ev l y = some r.val) (hr : r.addr.length = 16) (h0 : r0.addr.length = 16) (hb : w.heap[b]? = some (.cells r0.cells.toArray 57 (0, 0)))
    (h : ∀ w', Chg (fun k => k = b) w w' → w'.heap.size = w.heap.size → w'.heap[b]? = some (.cells r.cells.toArray 57 (0, 0)) → M l w') :
    OP Tryd.prog Q ⟨none, .store 57 x y, ty, pos, af, none⟩ n l w M := by
  obtain ⟨i, hi, hz⟩ := inf_of sz57
  exact OP.storeAgg hi (by rw [hz, List.size_toArray, Rec.length hr]) hx hy r.allOne hb (by rw [List.size_toArray, List.size_toArray, Rec.length hr, Rec.length h0]) h
/-- Loading a record. -/
theorem R.loadR {b o : Nat} (hr : r.addr.length = 16) (hx : ev l x = some (.pointer (some ⟨b, o, none⟩))) (hc : ∀ j u, r.cells[j]? = some u → w.cell? ⟨b, o + j, none⟩ = some u) : Runs Tryd.prog l (.load 57 x) w r.val w :=
  R.loadAgg1 (cs := r.cells) Tryd.underlying57 rfl (by rw [Rec.length hr]; exact sz57) hx hc
theorem R.loadRB {b : Nat} {fr : Nat × Nat} (hr : r.addr.length = 16) (hx : ev l x = some (.pointer (some ⟨b, 0, none⟩))) (hb : w.heap[b]? = some (.cells r.cells.toArray 57 fr)) : Runs Tryd.prog l (.load 57 x) w r.val w :=
  R.loadR hr hx (fun j u hj => cell_at hb (by rw [Nat.zero_add, List.getElem?_toArray]; exact hj))
end

/-- A message. -/
structure Msg where
  id : Int
  reply : Bool
  trunc : Bool
  recur : Bool
  code : Int
  qname : List UInt8
  qtype : Int
  ans : List Rec
  auth : List Rec
def Msg.cells (m : Msg) (va vb : Value) : List Value := [.int .i64 m.id, .bool m.reply, .bool m.trunc, .bool m.recur, .int .i64 m.code, sv m.qname, .int .i64 m.qtype, va, vb]
/-- A message in memory. -/
def MV (w : World) (v : Value) (m : Msg) : Prop := ∃ va vb, v = .agg (m.cells va vb).toArray ∧ RSl w va m.ans ∧ RSl w vb m.auth
theorem MV.kept {w w' : World} {S : Nat → Prop} {v : Value} {m : Msg} (h : MV w v m) (hc : Chg S w w') (hn : ∀ k, k < w.heap.size → ¬ S k) : MV w' v m := by
  obtain ⟨va, vb, rfl, h1, h2⟩ := h
  have key : ∀ {u : Value} {rs : List Rec}, RSl w u rs → RSl w' u rs := by
    intro u rs ⟨hk, A, c, e, hl, hm⟩
    refine ⟨hk, A, c, e, hl, fun h0 => ?_⟩
    obtain ⟨g, o, rfl, hcell⟩ := hm h0
    exact ⟨g, o, rfl, fun j u hj => cell_chg hc (hcell j u hj) (hn g (World.block_lt_of_cell? w _ (hcell j u hj)))⟩
  exact ⟨va, vb, rfl, key h1, key h2⟩
/-- A message in memory that is new: its lists lie in blocks from 'base' on. -/
def MVF (base : Nat) (w : World) (v : Value) (m : Msg) : Prop := ∃ va vb, v = .agg (m.cells va vb).toArray ∧ RSl w va m.ans ∧ RSl w vb m.auth ∧ (∀ k, va.ownBlock = some k → base ≤ k) ∧ (∀ k, vb.ownBlock = some k → base ≤ k)
theorem MVF.mv {base : Nat} {w : World} {v : Value} {m : Msg} (h : MVF base w v m) : MV w v m := by
  obtain ⟨va, vb, h1, h2, h3, _⟩ := h; exact ⟨va, vb, h1, h2, h3⟩
theorem MVF.kept {base : Nat} {w w' : World} {S : Nat → Prop} {v : Value} {m : Msg} (h : MVF base w v m) (hc : Chg S w w') (hn : ∀ k, base ≤ k → ¬ S k) : MVF base w' v m := by
  obtain ⟨va, vb, h1, h2, h3, h4, h5⟩ := h
  exact ⟨va, vb, h1, h2.kept hc (fun k hk => hn k (h4 k hk)), h3.kept hc (fun k hk => hn k (h5 k hk)), h4, h5⟩
theorem MVF.mono {base b2 : Nat} {w : World} {v : Value} {m : Msg} (h : MVF base w v m) (hb : b2 ≤ base) : MVF b2 w v m := by
  obtain ⟨va, vb, h1, h2, h3, h4, h5⟩ := h
  exact ⟨va, vb, h1, h2, h3, fun k hk => Nat.le_trans hb (h4 k hk), fun k hk => Nat.le_trans hb (h5 k hk)⟩
/-- May it be a message? -/
def allM (m : Msg) : Bool := decide (0 ≤ m.id) && decide (m.id ≤ 65535) && decide (0 ≤ m.code) && decide (m.code ≤ 15) && namesL m.qname && decide (1 ≤ m.qtype) && decide (m.qtype ≤ 65535) && decide (m.ans.length + m.auth.length ≤ 32) && m.ans.all rightR && m.auth.all rightR
end Go.Proofs.YthcpjcgjmdfpjaaDoor

namespace Go.Proofs.YthcpjcgjmdfpjaaDoor
open Go Go.ChangeShapes Go.WideShapes Go.ChangeAt Go.RowKit
set_option maxRecDepth 100000

theorem own : ownKnob Tryd.prog.godebug = none := by kernel_rfl
theorem laidOut : laidOutB Tryd.prog = true := by kernel_rfl
abbrev laidL : List (String × DataW Unit) := [("nomenclator/msg.mapped", Rows.laid_nomenclator_msg_mapped)]
theorem laid_agg : (Rows.laid_nomenclator_msg_mapped : DataW Unit) = .agg (mappedL.map fun c => .lit (.int .u8 (c.toNat : Int))) := by kernel_rfl

/-- What the variable holds. -/
theorem glob_of_laid {W : World} (h : laidMetH Tryd.prog laidL W) : Glob W := by
  rw [MakeChecks.laidMetH_plain _ _ _ (by kernel_rfl)] at h
  obtain ⟨ps, ⟨g, t, cs, fuel, p, q, hg, ht, hv, hd, _, _⟩, _, _⟩ := h
  obtain rfl := Option.some.inj ((show Tryd.prog.globalNamed "nomenclator/msg.mapped" = some 0 by kernel_rfl).symm.trans hg)
  obtain rfl := Option.some.inj ((show (Tryd.prog.globals[0]?).map (·.type) = some 108 by kernel_rfl).symm.trans ht)
  obtain ⟨xs, m, _, ex, _, hl, hel⟩ := DataW.trod_array Tryd.underlying108 hd
  have c5 : Tryd.prog.cellsOf 5 = 1 := by kernel_rfl
  intro r u hu
  have hr : r < mappedL.length := by
    have := (List.getElem?_eq_some_iff.1 hu).1
    simpa using this
  have hr12 : r < 12 := hr
  have hE := hel r hr12
  rw [c5, Nat.mul_one, List.getElem?_eq_getElem (by omega)] at hE
  obtain ⟨z, e1, e2, _⟩ := DataW.trod_int Tryd.underlying5 hE
  rw [laid_agg] at ex
  have e3 : (xs.map (·.1)) = mappedL.map fun c => .lit (.int .u8 (c.toNat : Int)) := (DataW.agg.inj (Prod.mk.inj ex).1).symm
  have e4 : (xs.map (·.1))[r]? = (mappedL.map fun c => (DataW.lit (.int .u8 (c.toNat : Int)) : DataW Unit))[r]? := by rw [e3]
  rw [List.getElem?_map, List.getElem?_map, List.getElem?_eq_getElem (by omega : r < xs.length), List.getElem?_eq_getElem hr, e2] at e4
  have hz : z = (mappedL[r].toNat : Int) := by
    simp only [Option.map_some, Option.some.injEq, DataW.lit.injEq, Lit.int.injEq, true_and] at e4
    exact e4
  have hu' : u = u8v mappedL[r] := by
    rw [List.getElem?_map, List.getElem?_eq_getElem hr] at hu
    exact (Option.some.inj hu).symm
  rw [World.var?_cell hg hv r, hu']
  have h1 : cs.toList[r]? = some (.int .u8 z) := by
    have h0 : ((cs.toList.drop r).take 1)[0]? = some (.int .u8 z) := by rw [e1]; rfl
    simpa using h0
  rw [hz] at h1
  simpa [u8v] using h1

/-- The arguments read as they did. -/
theorem trodAll_below {H : Type} {enc : TypeId × Value → H} {W W' : World} (hb : Below W.heap.size W W') (ts : List TypeId) : ∀ (vs : List Value) (ds : List (DataW H)) (ps : List MemPlace), (ts.all fun t => Tryd.prog.readableRec t && decide (t < Tryd.prog.types.size)) = true →
    DataW.TrodAll enc Tryd.prog W 0 (fun _ => true) true ts vs ds ps → (∀ x ∈ ps, x.block < W.heap.size) → DataW.TrodAll enc Tryd.prog W' 0 (fun b => decide (b < W.heap.size)) true ts vs ds ps := by
  induction ts with
  | nil =>
    intro vs ds ps _ h _
    cases vs with
    | nil => cases ds with
      | nil => exact h
      | cons _ _ => exact h.elim
    | cons _ _ => exact h.elim
  | cons t ts ih =>
    intro vs ds ps hr h hlt
    cases vs with
    | nil => exact h.elim
    | cons v vs => cases ds with
      | nil => exact h.elim
      | cons d ds =>
        obtain ⟨p, q, h1, h2, rfl⟩ := h
        rw [List.all_cons, Bool.and_eq_true, Bool.and_eq_true] at hr
        exact ⟨p, q, Below.trod laidOut hr.1.1 (of_decide_eq_true hr.1.2) h1 hb (fun x hx => hlt x (List.mem_append_left _ hx)), ih vs ds q hr.2 h2 (fun x hx => hlt x (List.mem_append_right _ hx)), rfl⟩

theorem trodAll_len {H : Type} {enc : TypeId × Value → H} {W : World} {base : Nat} {sp : Nat → Bool} {held : Bool} {fn : Func} {vs : List Value} {ds : List (DataW H)} {ps : List MemPlace} (h : DataW.TrodAll enc Tryd.prog W base sp held fn.params.toList vs ds ps) : ds.length = fn.params.size := by
  have key : ∀ (ts : List TypeId) (vs : List Value) (ds : List (DataW H)) (ps : List MemPlace), DataW.TrodAll enc Tryd.prog W base sp held ts vs ds ps → ds.length = ts.length := by
    intro ts
    induction ts with
    | nil =>
      intro vs ds ps h
      cases vs with
      | nil => cases ds with
        | nil => rfl
        | cons _ _ => exact h.elim
      | cons _ _ => exact h.elim
    | cons t ts ih =>
      intro vs ds ps h
      cases vs with
      | nil => exact h.elim
      | cons v vs => cases ds with
        | nil => exact h.elim
        | cons d ds =>
          obtain ⟨p, q, h1, h2, rfl⟩ := h
          simp [ih vs ds q h2]
  have := key _ _ _ _ h
  simpa using this
theorem list1 {α : Type} {l : List α} (h : l.length = 1) : ∃ a, l = [a] := by
  match l, h with
  | [a], _ => exact ⟨a, rfl⟩
theorem list2 {α : Type} {l : List α} (h : l.length = 2) : ∃ a b, l = [a, b] := by
  match l, h with
  | [a, b], _ => exact ⟨a, b, rfl⟩
theorem list3 {α : Type} {l : List α} (h : l.length = 3) : ∃ a b c, l = [a, b, c] := by
  match l, h with
  | [a, b, c], _ => exact ⟨a, b, c, rfl⟩
theorem arr_of {α : Type} {a : Array α} {l : List α} (h : a.toList = l) : a = l.toArray := by
  rw [← h]
theorem Chg.belowAll {W W' : World} (h : Chg (fun _ => False) W W') : Below W.heap.size W W' := ⟨h.os, h.tape, h.output, h.size, fun k hk => h.block k hk (fun e => e)⟩

/-- The row's post, of a law that returned true and turned new blocks alone. -/
theorem post_law {H : Type} {enc : TypeId × Value → H} {fn : Func} {s : ChangeSpec} {apart fresh handsOn : Bool} {W W' : World} {args : Array Value} {ds gs : List (DataW H)} {before : List MemPlace}
    (hW : DataW.Whole enc Tryd.prog fn.params.toList s.vars apart W args.toList ds gs before) (hv : s.vars = []) (hres : fn.resultTypes = #[4]) (hs : s.fn H (ds ++ gs) = { results := [.lit (.bool true)], args := ds })
    (hr : (fn.params.toList.all fun t => Tryd.prog.readableRec t && decide (t < Tryd.prog.types.size)) = true) (hb : Chg (fun _ => False) W W') : s.post enc Tryd.prog fn apart fresh handsOn false W args (.bool true) W' := by
  have hlt := hW.lt
  have hW' := hW
  obtain ⟨p, q, hA, hV, rfl, hfz, hnd⟩ := hW
  rw [hv] at hV
  obtain ⟨rfl, rfl⟩ := trodVars_none hV
  refine ⟨ds, [], _, [], p, [], hW', ?_, ?_, ?_, hb.belowAll.frame _, fun h => by cases h⟩
  · rw [hs, hres]
    exact trodAll_mk1 (shut_bool Tryd.underlying4 true)
  · rw [hs]
    exact trodAll_below hb.belowAll _ _ _ _ hr hA (fun x hx => hlt x (by simp [hx]))
  · rw [hs, hv]; rfl

/-- From the walk to the row. -/
theorem law_lifted {f : FuncId} {fn : Func} {s : ChangeSpec} {os : Os} (started : os.Started) {H : Type} {enc : TypeId × Value → H} (hfn : Tryd.prog.funcs[f]? = some fn) (noInit : Tryd.prog.inits.idxOf? f = none)
    (hv : s.vars = []) (hres : fn.resultTypes = #[4]) (hr : (fn.params.toList.all fun t => Tryd.prog.readableRec t && decide (t < Tryd.prog.types.size)) = true)
    (hs : ∀ ds : List (DataW H), ds.length = fn.params.size → s.fn H ds = { results := [.lit (.bool true)], args := ds })
    (hlen : ∀ (W : World) (vs : List Value) (ds : List (DataW H)) (ps : List MemPlace), DataW.TrodAll enc Tryd.prog W 0 (fun _ => true) true fn.params.toList vs ds ps → ds.length = fn.params.size)
    (witness : ∃ (w : World) (tape : Tape) (i : Input), w.os = os ∧ (w.forCall tape i).Shaped Tryd.checked.prog ∧ i.vars = [] ∧ Input.okWide Tryd.checked.prog (w.forCall tape i) .any w.heap.size f i ∧
      ((s.pre enc Tryd.checked.prog fn [] false (w.forCall tape i).memory i.args ∧ laidMetH Tryd.prog laidL (w.forCall tape i).memory) ∧ sizedMet enc Tryd.checked.prog fn (OpenSpec.ofChange s) false (w.forCall tape i).memory i.args) ∧ Assume.holds {} Tryd.checked.prog (lone (Frame.enter Tryd.checked.prog f i.args .normal) [] (w.forCall tape i)))
    (contract : ∀ (W : World) (base : Nat) (args : Array Value) (ds : List (DataW H)) (p : List MemPlace), (∀ (j : Nat) t v, fn.params[j]? = some t → args[j]? = some v → Value.okWide Tryd.prog W .any base t v) →
      DataW.TrodAll enc Tryd.prog W 0 (fun _ => true) true fn.params.toList args.toList ds p → (∀ x ∈ p, x.block < W.heap.size) → (DataW.weightsEach Tryd.prog fn.params.toList ds).all (· ≤ reachBytes) = true → Glob W →
      Calls Tryd.prog f args W fun e w' => e = .returned (.bool true) ∧ Chg (fun _ => False) W w') :
    ReturnsInHanded {} Tryd.checked os f .any (fun w args => (s.pre enc Tryd.prog fn [] false w args ∧ laidMetH Tryd.prog laidL w) ∧ sizedMet enc Tryd.prog fn (OpenSpec.ofChange s) false w args) (s.post enc Tryd.prog fn false true false false) := by
  refine returnsInHanded_of_change_and (C := Tryd.checked) (X := fun w _ => laidMetH Tryd.prog laidL w) (fun _ _ _ hh h => h.of_heap hh) own started noInit hfn witness ?_
  intro W base args ds gs before hval0 hW _ hw hL _
  have hW0 : DataW.Whole enc Tryd.prog fn.params.toList s.vars false W args.toList ds gs before := hW
  have hlt := hW0.lt
  obtain ⟨p, q, hA, hV, rfl, _, _⟩ := hW
  rw [hv] at hV
  obtain ⟨rfl, rfl⟩ := trodVars_none hV
  have hds := hlen W _ ds p hA
  refine (contract W base args ds p hval0 hA (fun x hx => hlt x (by simp [hx])) ?_ (glob_of_laid hL)).mono ?_
  · have hvt : s.plain.varTypes Tryd.prog = [] := by
      unfold DataSpec.varTypes
      rw [show s.plain.vars = s.vars from rfl, hv]; rfl
    have hw' : (DataW.weightsEach Tryd.prog (fn.params.toList ++ s.plain.varTypes Tryd.prog) (ds ++ [])).all (· ≤ reachBytes) = true := hw
    rw [hvt, List.append_nil, List.append_nil] at hw'
    exact hw'
  · rintro e w' ⟨rfl, hc⟩
    exact ⟨_, rfl, post_law hW0 hv hres (by rw [List.append_nil]; exact hs ds hds) hr hc⟩
end Go.Proofs.YthcpjcgjmdfpjaaDoor

namespace Go.Proofs.YthcpjcgjmdfpjaaDoor
open Go
set_option maxRecDepth 100000
/-- The head's signs. -/
def headCodes : List Nat := [104, 97, 114, 110, 101, 115, 115, 32, 54, 97, 102, 97, 49, 52, 52, 48, 57, 99, 49, 102, 99, 102, 55, 56, 52, 101, 49, 53, 57, 100, 51, 100, 100, 57, 97, 102, 57, 101, 48, 97, 102, 54, 102, 99, 48, 55, 97, 51, 100, 51, 101, 48, 54, 97, 97, 50, 99, 56, 98, 52, 99, 53, 55, 55, 57, 53, 49, 99, 97, 53, 49, 55, 32, 99, 117, 116, 32, 97, 116, 32, 110, 111, 109, 101, 110, 99, 108, 97, 116, 111, 114, 47, 110, 111, 109, 101, 110, 99, 108, 97, 116, 111, 114, 108, 97, 119, 49, 51, 46, 84, 114, 97, 110, 115, 77, 97, 116, 99, 104, 101, 115, 32, 110, 111, 109, 101, 110, 99, 108, 97, 116, 111, 114, 47, 110, 111, 109, 101, 110, 99, 108, 97, 116, 111, 114, 108, 97, 119, 49, 51, 46, 84, 114, 97, 110, 115, 68, 114, 97, 119, 115, 32, 110, 111, 109, 101, 110, 99, 108, 97, 116, 111, 114, 47, 110, 111, 109, 101, 110, 99, 108, 97, 116, 111, 114, 108, 97, 119, 49, 51, 46, 84, 114, 97, 110, 115, 74, 117, 110, 107, 32, 110, 111, 109, 101, 110, 99, 108, 97, 116, 111, 114, 47, 110, 111, 109, 101, 110, 99, 108, 97, 116, 111, 114, 108, 97, 119, 49, 51, 46, 84, 114, 97, 110, 115, 76, 111, 110, 103, 32, 110, 111, 109, 101, 110, 99, 108, 97, 116, 111, 114, 47, 110, 111, 109, 101, 110, 99, 108, 97, 116, 111, 114, 108, 97, 119, 48, 52, 46, 77, 115, 103, 74, 117, 110, 107, 32, 110, 111, 109, 101, 110, 99, 108, 97, 116, 111, 114, 47, 110, 111, 109, 101, 110, 99, 108, 97, 116, 111, 114, 108, 97, 119, 49, 51, 46, 84, 114, 97, 110, 115, 79, 116, 104, 101, 114, 115, 32, 110, 111, 109, 101, 110, 99, 108, 97, 116, 111, 114, 47, 110, 111, 109, 101, 110, 99, 108, 97, 116, 111, 114, 108, 97, 119, 48, 52, 46, 77, 115, 103, 67, 111, 117, 110, 116, 115, 32, 110, 111, 109, 101, 110, 99, 108, 97, 116, 111, 114, 47, 110, 111, 109, 101, 110, 99, 108, 97, 116, 111, 114, 108, 97, 119, 49, 51, 46, 84, 114, 97, 110, 115, 83, 101, 110, 100, 115, 32, 110, 111, 109, 101, 110, 99, 108, 97, 116, 111, 114, 47, 110, 111, 109, 101, 110, 99, 108, 97, 116, 111, 114, 108, 97, 119, 49, 52, 46, 76, 108, 109, 110, 114, 65, 110, 115, 119, 101, 114, 115, 32, 110, 111, 109, 101, 110, 99, 108, 97, 116, 111, 114, 47, 110, 111, 109, 101, 110, 99, 108, 97, 116, 111, 114, 108, 97, 119, 49, 52, 46, 76, 108, 109, 110, 114, 79, 110, 99, 101, 32, 110, 111, 109, 101, 110, 99, 108, 97, 116, 111, 114, 47, 110, 111, 109, 101, 110, 99, 108, 97, 116, 111, 114, 108, 97, 119, 49, 52, 46, 76, 108, 109, 110, 114, 84, 121, 112, 101, 115, 32, 110, 111, 109, 101, 110, 99, 108, 97, 116, 111, 114, 47, 110, 111, 109, 101, 110, 99, 108, 97, 116, 111, 114, 108, 97, 119, 48, 52, 46, 77, 115, 103, 66, 97, 99, 107, 32, 110, 111, 109, 101, 110, 99, 108, 97, 116, 111, 114, 47, 110, 111, 109, 101, 110, 99, 108, 97, 116, 111, 114, 108, 97, 119, 48, 52, 46, 77, 115, 103, 65, 110, 121, 32, 110, 111, 109, 101, 110, 99, 108, 97, 116, 111, 114, 47, 110, 111, 109, 101, 110, 99, 108, 97, 116, 111, 114, 108, 97, 119, 48, 52, 46, 77, 115, 103, 82, 105, 103, 104, 116, 32, 110, 111, 109, 101, 110, 99, 108, 97, 116, 111, 114, 47, 110, 111, 109, 101, 110, 99, 108, 97, 116, 111, 114, 108, 97, 119, 48, 52, 46, 77, 115, 103, 80, 108, 97, 99, 101, 115, 32, 110, 111, 109, 101, 110, 99, 108, 97, 116, 111, 114, 47, 110, 111, 109, 101, 110, 99, 108, 97, 116, 111, 114, 108, 97, 119, 48, 52, 46, 77, 115, 103, 72, 101, 97, 100, 115, 32, 110, 111, 109, 101, 110, 99, 108, 97, 116, 111, 114, 47, 110, 111, 109, 101, 110, 99, 108, 97, 116, 111, 114, 108, 97, 119, 48, 52, 46, 77, 115, 103, 67, 97, 112, 105, 116, 97, 108, 115, 32, 110, 111, 109, 101, 110, 99, 108, 97, 116, 111, 114, 47, 110, 111, 109, 101, 110, 99, 108, 97, 116, 111, 114, 108, 97, 119, 48, 52, 46, 77, 115, 103, 77, 111, 114, 101]
theorem seat_head : Tryd.prog.initOrder = String.ofList (headCodes.map Char.ofNat) := by kernel_rfl
theorem seat_signs : Tryd.prog.initOrder.toList = headCodes.map Char.ofNat :=
  (congrArg String.toList seat_head).trans String.toList_ofList
/-- Its words, behind the first two. -/
def headRest : List (List Char) := (wordsSigns (headCodes.map Char.ofNat)).drop 3
def cutSigns : List Char := ([99, 117, 116].map Char.ofNat)
def sumSigns : List Char := ([54, 97, 102, 97, 49, 52, 52, 48, 57, 99, 49, 102, 99, 102, 55, 56, 52, 101, 49, 53, 57, 100, 51, 100, 100, 57, 97, 102, 57, 101, 48, 97, 102, 54, 102, 99, 48, 55, 97, 51, 100, 51, 101, 48, 54, 97, 97, 50, 99, 56, 98, 52, 99, 53, 55, 55, 57, 53, 49, 99, 97, 53, 49, 55].map Char.ofNat)
theorem seat_words : wordsSigns Tryd.prog.initOrder.toList = ([104, 97, 114, 110, 101, 115, 115].map Char.ofNat) :: sumSigns :: cutSigns :: headRest :=
  (congrArg wordsSigns seat_signs).trans (by kernel_rfl)
theorem sum_ok : isSumSigns sumSigns = true := by kernel_rfl

section
variable {P : Program} {h s c : List Char} {rest : List (List Char)}
theorem behind_of (hw : wordsSigns P.initOrder.toList = h :: s :: c :: rest) (h1 : (h == "harness".toList) = true) (h2 : isSumSigns s = true) : behindMainWord (wordsSigns P.initOrder.toList) = c :: rest := by
  rw [hw]
  unfold behindMainWord
  simp only [h1, h2, Bool.true_or, Bool.and_self, if_true]
theorem make_of (hb : behindMainWord (wordsSigns P.initOrder.toList) = c :: rest) (h1 : (c == "gc".toList || c == "spec".toList) = false) (h2 : (c == "cut".toList) = true) : P.make = some .cut := by
  unfold Program.make
  rw [hb]
  simp only [h1, h2]
  rfl
theorem lifts_of (hb : behindMainWord (wordsSigns P.initOrder.toList) = c :: rest) (h1 : (c == "carried".toList) = false) (h3 : stripLifts liftWords (c :: rest) = ([], c :: rest)) : P.liftsFinal = false := by
  have hl : P.headLifts = [] := by
    unfold Program.headLifts
    rw [hb, h3]
    simp only
    split <;> rfl
  unfold Program.liftsFinal
  rw [hb, hl]
  simp only [List.head?_cons, List.contains_nil, Bool.or_false]
  have : (some c == some "carried".toList) = false := h1
  rw [this]; rfl
theorem enter_of (hb : behindMainWord (wordsSigns P.initOrder.toList) = c :: rest) (h2 : (c == "cut".toList) = true) (h3 : stripLifts liftWords (c :: rest) = ([], c :: rest)) (hl : P.laysLater = false) (hr : P.bearsReflect = false) (hd : P.doorFits [] = true) : P.mayEnter = true := by
  have : (some c == some "cut".toList) = true := h2
  unfold Program.mayEnter
  rw [hb]
  simp only [h3, List.head?_cons, this, hl, hr, hd]
  simp
theorem main_of (hw : wordsSigns P.initOrder.toList = h :: s :: rest) (h1 : (h == "harness".toList) = true) (h2 : isSumSigns s = true) : P.mainIs = some (true, s) := by
  unfold Program.mainIs
  rw [hw]
  simp only [h1, h2]
  rfl
end
theorem seat_behind : behindMainWord (wordsSigns Tryd.prog.initOrder.toList) = cutSigns :: headRest := behind_of seat_words (by kernel_rfl) sum_ok
theorem seat_strip : stripLifts liftWords (cutSigns :: headRest) = ([], cutSigns :: headRest) := by kernel_rfl
theorem seat_make : Tryd.prog.make = some .cut := make_of seat_behind (by kernel_rfl) (by kernel_rfl)
theorem seat_lifts : Tryd.prog.liftsFinal = false := lifts_of seat_behind (by kernel_rfl) seat_strip
theorem seat_mayEnter : Tryd.prog.mayEnter = true := enter_of seat_behind (by kernel_rfl) seat_strip (by kernel_rfl) (by kernel_rfl) (by kernel_rfl)
theorem seat_sum : "6afa14409c1fcf784e159d3dd9af9e0af6fc07a3d3e06aa2c8b4c577951ca517".toList = sumSigns := by kernel_rfl
theorem seat_main : Tryd.prog.mainIs = some (true, "6afa14409c1fcf784e159d3dd9af9e0af6fc07a3d3e06aa2c8b4c577951ca517".toList) := by
  rw [seat_sum]; exact main_of seat_words (by kernel_rfl) sum_ok
end Go.Proofs.YthcpjcgjmdfpjaaDoor

namespace Go.Proofs.YthcpjcgjmdfpjaaDoor
open Go
theorem joined_of {P : Program} {f : FuncId} {fn : Func} {s : ChangeSpec} {c : OpenClaim} (hm : P.mayEnter = true) (hl : P.liftsFinal = false) (hk : P.make = some .cut) (hcl : c.lifted = false) (hck : c.make = .cut) (hd : c.domain = []) (hkd : c.kinds = [])
    (k0 : (c.wf (OpenSpec.ofChange s)) = true)
    (k1 : (laidOutB P) = true)
    (k2 : (mapsRowed P) = true)
    (k3 : (fn.params.all (P.readableRec ·)) = true)
    (k4 : (namedTie P c.named s.vars) = true)
    (k5 : (c.stops == []) = true)
    (k6 : (P.stops == []) = true)
    (k7 : (c.knobs == []) = true)
    (k8 : (P.stopKnobs == []) = true)
    (k9 : (c.inPlace == P.inPlace f) = true)
    (k10 : (c.unfollowed == P.unfollowed f) = true)
    (k11 : (c.recurses == P.recurses f) = true)
    (k12 : (c.named == P.varsNamed f) = true)
    (k13 : (c.maps == (fn.params.toList ++ s.plain.varTypes P).any (P.mapsRec ·)) = true)
    (k14 : (c.ifaces == (fn.params.toList ++ s.plain.varTypes P).any (P.ifacesRec ·)) = true)
    (k15 : (c.mapsOut == P.mapsAmong fn.resultTypes.toList) = true)
    (k16 : (c.loops == (fn.params.toList ++ s.plain.varTypes P).any (P.loopsFrom ·)) = true)
    (k17 : (c.wideKeys == (fn.params.toList ++ s.plain.varTypes P ++ fn.resultTypes.toList).any (P.wideKeysFrom ·)) = true)
    (k18 : (s.vars.all (P.varReadable ·)) = true)
    (k19 : (fn.resultTypes.all (fun t => P.readableRec t && decide (t < P.types.size))) = true)
    (k20 : (c.ifacesOut == fn.resultTypes.toList.any (P.ifacesRec ·)) = true)
    (k21 : (c.loopsOut == fn.resultTypes.toList.any (P.loopsFrom ·)) = true)
    (k22 : (c.plainKeys == P.plainKeys) = true)
    (k23 : (c.shortTexts.isNone) = true)
    (k24 : (P.stopsHeard) = true)
    (k29 : (c.pinned == c.pinnedBy) = true)
    (k30 : (c.veiled == (fn.params.toList ++ s.plain.varTypes P ++ fn.resultTypes.toList).any (P.veiledRec ·)) = true)
    (k31 : (c.veiledFits P fn.params.toList (fn.params.toList ++ s.plain.varTypes P ++ fn.resultTypes.toList)) = true) :
    joinedFacts P f fn s c = true := by
  have e1 : (c.lifted == P.liftsFinal) = true := by rw [hl, hcl]; rfl
  have e2 : (P.make == some c.make) = true := by rw [hk, hck]; rfl
  unfold joinedFacts
  rw [e1, e2, hm, k0, k1, k2, k3, k4, k5, k6, k7, k8, k9, k10, k11, k12, k13, k14, k15, k16, k17, k18, k19, k20, k21, k22, k23, k24, k29, k30, k31, hd, hkd]
  rfl
end Go.Proofs.YthcpjcgjmdfpjaaDoor

namespace Go.Proofs.YthcpjcgjmdfpjaaDoor
open Go Go.RowKit
set_option maxRecDepth 100000
section
variable {l : Env} {w : World} {x y z : Operand} {t ty e : TypeId} {v : Value} {b o : Nat}

/-- An element of one cell, of an array's value. -/
theorem R.index1 {n i : Nat} {k : IntKind} {j : Int} {cs : Array Value} {d : TypeDesc} (ht : Tryd.prog.underlying t = some (.array n e)) (he : Tryd.prog.underlying e = some d) (hd : isAggD d = false) (hs : (Tryd.prog.info? e).map (·.size) = some 1)
    (hx : ev l x = some (.agg cs)) (hy : ev l y = some (.int k j)) (hj : j = (i : Int)) (hi : i < n) (hv : cs[i]? = some v) : Runs Tryd.prog l (.index t x y) w v w := fun r _ _ _ _ _ he' => by
  subst hj
  obtain ⟨inf, hi', hz⟩ := inf_of hs
  have h1 : (0 : Int) ≤ (i : Int) ∧ (i : Int) < (n : Int) := by omega
  have hp := run_part1 (P := Tryd.prog) he hd (cs := cs) (i := i) hv w
  simp only [execOp, he' x _ hx, he' y _ hy, Instr.index, asIntOf, Sem.run_bind, Sem.run_pure, Result.andThen_ok, run_underlying ht, if_pos h1, sizeOf, typeInfo, run_program, hi', hz, Int.toNat_natCast, Nat.mul_one, hp]
/-- An element of several cells. -/
theorem R.indexN {n i s : Nat} {k : IntKind} {j : Int} {cs : Array Value} {d : TypeDesc} (ht : Tryd.prog.underlying t = some (.array n e)) (he : Tryd.prog.underlying e = some d) (hd : isAggD d = true) (hs : (Tryd.prog.info? e).map (·.size) = some s)
    (hx : ev l x = some (.agg cs)) (hy : ev l y = some (.int k j)) (hj : j = (i : Int)) (hi : i < n) : Runs Tryd.prog l (.index t x y) w (.agg (cs.extract (i * s) (i * s + s))) w := fun r _ _ _ _ _ he' => by
  subst hj
  obtain ⟨inf, hi', hz⟩ := inf_of hs
  have h1 : (0 : Int) ≤ (i : Int) ∧ (i : Int) < (n : Int) := by omega
  have hp := run_partAgg (P := Tryd.prog) he hd hs cs (i * s) w
  simp only [execOp, he' x _ hx, he' y _ hy, Instr.index, asIntOf, Sem.run_bind, Sem.run_pure, Result.andThen_ok, run_underlying ht, if_pos h1, sizeOf, typeInfo, run_program, hi', hz, Int.toNat_natCast, hp]
/-- The address of an array's element. -/
theorem R.indexArr {n i s : Nat} {k : IntKind} {j : Int} (ht : Tryd.prog.underlying t = some (.array n e)) (hs : (Tryd.prog.info? e).map (·.size) = some s) (hx : ev l x = some (.pointer (some ⟨b, o, none⟩))) (hy : ev l y = some (.int k j)) (hj : j = (i : Int)) (hi : i < n) :
    Runs Tryd.prog l (.indexAddr t x y) w (.pointer (some ⟨b, o + i * s, none⟩)) w := fun r _ _ _ _ _ he => by
  subst hj
  obtain ⟨inf, hi', hz⟩ := inf_of hs
  have h1 : (0 : Int) ≤ (i : Int) ∧ (i : Int) < (n : Int) := by omega
  simp [execOp, he x _ hx, he y _ hy, Instr.indexAt, asIntOf, run_underlying ht, h1, sizeOf, typeInfo, hi', hz, Addr.add_none, Instr.sureAddr, hi]

/-- A store of several cells somewhere in a block. -/
theorem OP.storeAt {n : Nat} {Q : Exit → Act → World → Prop} {M : Env → World → Prop} {pos : String} {af : Array Edge} {cur cells : Array Value} {s : Nat} (hs : (Tryd.prog.info? t).map (·.size) = some s) (hn : cells.size = s) (hx : ev l x = some (.pointer (some ⟨b, o, none⟩))) (hy : ev l y = some (.agg cells)) (h1 : cells.all (·.oneCell') = true)
    (hb : w.heap[b]? = some (.cells cur e (0, 0))) (ho : o + s ≤ cur.size)
    (h : ∀ w', Chg (fun k => k = b) w w' → w'.heap.size = w.heap.size → w'.heap[b]? = some (.cells (cur.toList.take o ++ cells.toList ++ cur.toList.drop (o + s)).toArray e (0, 0)) → M l w') :
    OP Tryd.prog Q ⟨none, .store t x y, ty, pos, af, none⟩ n l w M := by
  obtain ⟨inf, hi', hz⟩ := inf_of hs
  subst hn
  refine OP.unit (w' := w.setRow b (cur.toList.take o ++ cells.toList ++ cur.toList.drop (o + cells.size)).toArray) (fun r _ _ _ _ _ he => ?_) (h _ (Chg.setRow _ _ _ rfl) (by simp) (setRow_heap _ _ _ _ _ _ hb))
  have hone : ∀ v ∈ cells.toList, v.oneCell' = true := by
    intro v hv
    rw [Array.all_eq_true_iff_forall_mem] at h1
    exact h1 v (by simpa using hv)
  have hst := run_storeCells_at Tryd.prog b o e cells.toList 0 cur w hb (by simpa using ho) hone
  simp only [Nat.add_zero, Array.length_toList] at hst
  simp only [execOp, he x _ hx, he y _ hy, Instr.storeAt, Instr.sureAddr, Sem.run_bind, Sem.run_pure, Result.andThen_ok]
  simp [storeVar, sizeOf, typeInfo, hi', hz, Value.cells, hst]

theorem R.minC {a b : Int} {k k' : IntKind} {ts : Array TypeId} (hx : ev l x = some (.int k a)) (hy : ev l y = some (.int k' b)) : Runs Tryd.prog l (.call { callee := .builtin .min, args := #[x, y], argTypes := ts }) w (.int k (if b < a then b else a)) w := fun r _ _ _ _ _ he => by
  simp only [execOp, resolve, invoke, builtin, Sem.run_bind, Sem.run_pure, Result.andThen_ok, List.map_toArray, List.map_cons, List.map_nil, he x _ hx, he y _ hy, run_min_int2]
theorem R.eqlB {a b c : Bool} (hx : ev l x = some (.bool a)) (hy : ev l y = some (.bool b)) (h : (a == b) = c) : Runs Tryd.prog l (.binOp .eql 4 x y ty) w (.bool c) w := fun r _ _ _ _ _ he => by
  subst h
  have := run_eql_bool (P := Tryd.prog) w 4 a b Tryd.underlying4
  simp [execOp, he x _ hx, he y _ hy, eqGuard, this]
theorem R.neqB {a b c : Bool} (hx : ev l x = some (.bool a)) (hy : ev l y = some (.bool b)) (h : (!(a == b)) = c) : Runs Tryd.prog l (.binOp .neq 4 x y ty) w (.bool c) w := fun r _ _ _ _ _ he => by
  subst h
  have := run_neq_bool (P := Tryd.prog) w 4 a b Tryd.underlying4
  simp [execOp, he x _ hx, he y _ hy, eqGuard, this]
end
end Go.Proofs.YthcpjcgjmdfpjaaDoor

namespace Go.Proofs.YthcpjcgjmdfpjaaDoor
open Go Go.RowKit
set_option maxRecDepth 100000
set_option maxHeartbeats 4000000

theorem build106 (A : Option Addr) (n c : Nat) (B : Option Addr) (m d : Nat) (w : World) : (Instr.build 106 #[(0, .slice A n c), (1, .slice B m d)]).run Tryd.prog w = .ok (.agg #[.slice A n c, .slice B m d]) w := by kernel_rfl
/-- Which of the two lists. -/
theorem elem_of {m : Msg} {w : World} {Aa Ab : Option Addr} {ca cb i : Nat} (ha : RSl w (.slice Aa m.ans.length ca) m.ans) (hb : RSl w (.slice Ab m.auth.length cb) m.auth) (hi : i < 2) :
    ∃ (rs : List Rec) (A : Option Addr) (c : Nat), [m.ans, m.auth][i]? = some rs ∧ (#[Value.slice Aa m.ans.length ca, Value.slice Ab m.auth.length cb])[i]? = some (.slice A rs.length c) ∧ RSl w (.slice A rs.length c) rs ∧ rs.length ≤ m.ans.length + m.auth.length := by
  match i, hi with
  | 0, _ => exact ⟨m.ans, Aa, ca, rfl, rfl, ha, by omega⟩
  | 1, _ => exact ⟨m.auth, Ab, cb, rfl, rfl, hb, by omega⟩
theorem all_false {rs : List Rec} {j : Nat} {x : Rec} (hx : rs[j]? = some x) (hr : rightR x = false) : rs.all rightR = false := by
  rw [List.all_eq_false]
  exact ⟨x, List.mem_of_getElem? hx, by simp [hr]⟩
theorem all_bad {m : Msg} {i : Nat} {rs : List Rec} (h : [m.ans, m.auth][i]? = some rs) (hf : rs.all rightR = false) : allM m = false := by
  unfold allM
  match i, h with
  | 0, h => obtain rfl := Option.some.inj h; simp [hf]
  | 1, h => obtain rfl := Option.some.inj h; simp [hf]
  | k + 2, h => simp at h
theorem mem_of {m : Msg} {i j : Nat} {rs : List Rec} {x : Rec} (h : [m.ans, m.auth][i]? = some rs) (hx : rs[j]? = some x) : x ∈ m.ans ++ m.auth := by
  have := List.mem_of_getElem? hx
  match i, h with
  | 0, h => obtain rfl := Option.some.inj h; simp [this]
  | 1, h => obtain rfl := Option.some.inj h; simp [this]
  | k + 2, h => simp at h
theorem all_next {m : Msg} {i : Nat} {rs : List Rec} (hall : ∀ (j : Nat) (rs : List Rec), [m.ans, m.auth][j]? = some rs → j < i → rs.all rightR = true) (h : [m.ans, m.auth][i]? = some rs) (hd : rs.all rightR = true) : ∀ (j : Nat) (rs : List Rec), [m.ans, m.auth][j]? = some rs → j < i + 1 → rs.all rightR = true := by
  intro j q hq hj
  by_cases e : j = i
  · subst e; rw [h] at hq; obtain rfl := Option.some.inj hq; exact hd
  · exact hall j q hq (by omega)
theorem all_take {rs : List Rec} {j : Nat} {x : Rec} (hx : rs[j]? = some x) (hr : rightR x = true) (h : (rs.take j).all rightR = true) : (rs.take (j + 1)).all rightR = true := by
  have hlt := (List.getElem?_eq_some_iff.1 hx).1
  have hv := (List.getElem?_eq_some_iff.1 hx).2
  rw [List.take_succ_eq_append_getElem hlt, hv, List.all_append, h]
  simp [hr]

/-- Short enough for the machine. -/
def Rec.small (r : Rec) : Prop := r.name.length ≤ 1099511627776 ∧ r.text.length ≤ 1099511627776 ∧ r.data.length ≤ 1099511627776
def Msg.small (m : Msg) : Prop := m.qname.length ≤ 1099511627776 ∧ m.ans.length ≤ 1099511627776 ∧ m.auth.length ≤ 1099511627776 ∧ ∀ r ∈ m.ans ++ m.auth, r.small

theorem all_any (m : Msg) (v : Value) (w0 : World) (hm : MV w0 v m) (hG : Glob w0) (hs : m.small) :
    Calls Tryd.prog 30 #[v] w0 fun e w' => e = .returned (.bool (allM m)) ∧ Chg (fun _ => False) w0 w' := by
  obtain ⟨va, vb, rfl, hva, hvb⟩ := hm
  obtain ⟨Aa, ca, rfl, _⟩ := hva.form
  obtain ⟨Ab, cb, rfl, _⟩ := hvb.form
  obtain ⟨hl1, hl2, hl3, hsm⟩ := hs
  refine calls_cw (args := [.agg (m.cells (.slice Aa m.ans.length ca) (.slice Ab m.auth.length cb)).toArray]) Tryd.func30 rfl rfl ?_
  show CW _ _ _ 73 [(0, .agg (m.cells (.slice Aa m.ans.length ca) (.slice Ab m.auth.length cb)).toArray)] w0
  refine CW.rseq ?_
  refine WL.eff rfl (OP.box (by decide) rfl ?_)
  intro w1 hc1 hs1 hB
  have hC := hc1
  have hG := hG.kept hc1 (fun h => h)
  have hva := hva.kept hc1 (fun _ _ h => h)
  have hvb := hvb.kept hc1 (fun _ _ h => h)
  refine WL.op (by decide) (R.assign rfl) ?_
  refine WL.next ?_
  refine CW.seq ?_
  refine CW.rseq ?_
  refine WL.op (by decide) (FA33_0 rfl) ?_
  refine WL.op (by decide) (R.load Tryd.underlying3 rfl rfl (cell_at hB rfl)) ?_
  refine WL.lssS (by decide) rfl rfl (fun h1 => ?_) (fun h1 => ?_)
  · skip
    refine WL.op (by decide) (R.move rfl) ?_
    refine WL.pass (by decide) rfl rfl rfl ?_
    refine WL.pass (by decide) rfl rfl rfl ?_
    refine WL.pass (by decide) rfl rfl rfl ?_
    refine WL.op (by decide) (R.pickT rfl rfl) ?_
    refine WL.op (by decide) (R.move rfl) ?_
    refine WL.pass (by decide) rfl rfl rfl ?_
    refine WL.pass (by decide) rfl rfl rfl ?_
    refine WL.pass (by decide) rfl rfl rfl ?_
    refine WL.op (by decide) (R.pickT rfl rfl) ?_
    refine WL.op (by decide) (R.move rfl) ?_
    refine WL.pass (by decide) rfl rfl rfl ?_
    refine WL.pass (by decide) rfl rfl rfl ?_
    refine WL.pass (by decide) rfl rfl rfl ?_
    refine WL.op (by decide) (R.pickT rfl rfl) ?_
    refine WL.op (by decide) (R.move rfl) ?_
    refine WL.pass (by decide) rfl rfl rfl ?_
    refine WL.pass (by decide) rfl rfl rfl ?_
    refine WL.pass (by decide) rfl rfl rfl ?_
    refine WL.pass (by decide) rfl rfl rfl ?_
    refine WL.pass (by decide) rfl rfl rfl ?_
    refine WL.op (by decide) (R.pickT rfl rfl) ?_
    refine WL.op (by decide) (R.move rfl) ?_
    refine WL.pass (by decide) rfl rfl rfl ?_
    refine WL.pass (by decide) rfl rfl rfl ?_
    refine WL.pass (by decide) rfl rfl rfl ?_
    refine WL.pass (by decide) rfl rfl rfl ?_
    refine WL.op (by decide) (R.pickT rfl rfl) ?_
    refine WL.op (by decide) (R.move rfl) ?_
    refine WL.pass (by decide) rfl rfl rfl ?_
    refine WL.pass (by decide) rfl rfl rfl ?_
    refine WL.pass (by decide) rfl rfl rfl ?_
    refine WL.pass (by decide) rfl rfl rfl ?_
    refine WL.op (by decide) (R.pickT rfl rfl) ?_
    refine WL.op (by decide) (R.move rfl) ?_
    refine WL.pass (by decide) rfl rfl rfl ?_
    refine WL.pass (by decide) rfl rfl rfl ?_
    refine WL.pass (by decide) rfl rfl rfl ?_
    refine WL.pass (by decide) rfl rfl rfl ?_
    refine WL.pass (by decide) rfl rfl rfl ?_
    refine WL.pass (by decide) rfl rfl rfl ?_
    refine WL.pass (by decide) rfl rfl rfl ?_
    refine WL.pass (by decide) rfl rfl rfl ?_
    refine WL.op (by decide) (R.pickT rfl rfl) ?_
    refine WL.next ?_
    refine CW.condT rfl ?_
    refine CW.rseq ?_
    refine WL.op (by decide) (R.assign rfl) ?_
    refine WL.next ?_
    refine CW.ret ?_
    refine EW.thenRet ?_
    refine EW.ret1 (.inl rfl) rfl rfl ⟨?_, hC⟩
    exact congrArg (fun b => Ending.returned (.bool b)) (show _ = allM m from by unfold allM; first | (simp [*]; done) | (simp [*]; omega) | (simp [*]; intros; omega))
  · skip
    refine WL.op (by decide) (R.move rfl) ?_
    refine WL.gop (by decide) rfl rfl rfl (FA33_0 rfl) ?_
    refine WL.gop (by decide) rfl rfl rfl (R.load Tryd.underlying3 rfl rfl (cell_at hB rfl)) ?_
    refine WL.gsplit _ (by decide) rfl rfl rfl (R.gtrD rfl rfl) (fun h2 => ?_) (fun h2 => ?_)
    · skip
      refine WL.op (by decide) (R.pickF rfl rfl) ?_
      refine WL.op (by decide) (R.move rfl) ?_
      refine WL.pass (by decide) rfl rfl rfl ?_
      refine WL.pass (by decide) rfl rfl rfl ?_
      refine WL.pass (by decide) rfl rfl rfl ?_
      refine WL.op (by decide) (R.pickT rfl rfl) ?_
      refine WL.op (by decide) (R.move rfl) ?_
      refine WL.pass (by decide) rfl rfl rfl ?_
      refine WL.pass (by decide) rfl rfl rfl ?_
      refine WL.pass (by decide) rfl rfl rfl ?_
      refine WL.op (by decide) (R.pickT rfl rfl) ?_
      refine WL.op (by decide) (R.move rfl) ?_
      refine WL.pass (by decide) rfl rfl rfl ?_
      refine WL.pass (by decide) rfl rfl rfl ?_
      refine WL.pass (by decide) rfl rfl rfl ?_
      refine WL.pass (by decide) rfl rfl rfl ?_
      refine WL.pass (by decide) rfl rfl rfl ?_
      refine WL.op (by decide) (R.pickT rfl rfl) ?_
      refine WL.op (by decide) (R.move rfl) ?_
      refine WL.pass (by decide) rfl rfl rfl ?_
      refine WL.pass (by decide) rfl rfl rfl ?_
      refine WL.pass (by decide) rfl rfl rfl ?_
      refine WL.pass (by decide) rfl rfl rfl ?_
      refine WL.op (by decide) (R.pickT rfl rfl) ?_
      refine WL.op (by decide) (R.move rfl) ?_
      refine WL.pass (by decide) rfl rfl rfl ?_
      refine WL.pass (by decide) rfl rfl rfl ?_
      refine WL.pass (by decide) rfl rfl rfl ?_
      refine WL.pass (by decide) rfl rfl rfl ?_
      refine WL.op (by decide) (R.pickT rfl rfl) ?_
      refine WL.op (by decide) (R.move rfl) ?_
      refine WL.pass (by decide) rfl rfl rfl ?_
      refine WL.pass (by decide) rfl rfl rfl ?_
      refine WL.pass (by decide) rfl rfl rfl ?_
      refine WL.pass (by decide) rfl rfl rfl ?_
      refine WL.pass (by decide) rfl rfl rfl ?_
      refine WL.pass (by decide) rfl rfl rfl ?_
      refine WL.pass (by decide) rfl rfl rfl ?_
      refine WL.pass (by decide) rfl rfl rfl ?_
      refine WL.op (by decide) (R.pickT rfl rfl) ?_
      refine WL.next ?_
      refine CW.condT rfl ?_
      refine CW.rseq ?_
      refine WL.op (by decide) (R.assign rfl) ?_
      refine WL.next ?_
      refine CW.ret ?_
      refine EW.thenRet ?_
      refine EW.ret1 (.inl rfl) rfl rfl ⟨?_, hC⟩
      exact congrArg (fun b => Ending.returned (.bool b)) (show _ = allM m from by unfold allM; first | (simp [*]; done) | (simp [*]; omega) | (simp [*]; intros; omega))
    · skip
      refine WL.op (by decide) (R.pickF rfl rfl) ?_
      refine WL.op (by decide) (R.move rfl) ?_
      refine WL.gop (by decide) rfl rfl rfl (FA33_4 rfl) ?_
      refine WL.gop (by decide) rfl rfl rfl (R.load Tryd.underlying3 rfl rfl (cell_at hB rfl)) ?_
      refine WL.gsplit _ (by decide) rfl rfl rfl (R.lssD rfl rfl) (fun h3 => ?_) (fun h3 => ?_)
      · skip
        refine WL.op (by decide) (R.pickF rfl rfl) ?_
        refine WL.op (by decide) (R.move rfl) ?_
        refine WL.pass (by decide) rfl rfl rfl ?_
        refine WL.pass (by decide) rfl rfl rfl ?_
        refine WL.pass (by decide) rfl rfl rfl ?_
        refine WL.op (by decide) (R.pickT rfl rfl) ?_
        refine WL.op (by decide) (R.move rfl) ?_
        refine WL.pass (by decide) rfl rfl rfl ?_
        refine WL.pass (by decide) rfl rfl rfl ?_
        refine WL.pass (by decide) rfl rfl rfl ?_
        refine WL.pass (by decide) rfl rfl rfl ?_
        refine WL.pass (by decide) rfl rfl rfl ?_
        refine WL.op (by decide) (R.pickT rfl rfl) ?_
        refine WL.op (by decide) (R.move rfl) ?_
        refine WL.pass (by decide) rfl rfl rfl ?_
        refine WL.pass (by decide) rfl rfl rfl ?_
        refine WL.pass (by decide) rfl rfl rfl ?_
        refine WL.pass (by decide) rfl rfl rfl ?_
        refine WL.op (by decide) (R.pickT rfl rfl) ?_
        refine WL.op (by decide) (R.move rfl) ?_
        refine WL.pass (by decide) rfl rfl rfl ?_
        refine WL.pass (by decide) rfl rfl rfl ?_
        refine WL.pass (by decide) rfl rfl rfl ?_
        refine WL.pass (by decide) rfl rfl rfl ?_
        refine WL.op (by decide) (R.pickT rfl rfl) ?_
        refine WL.op (by decide) (R.move rfl) ?_
        refine WL.pass (by decide) rfl rfl rfl ?_
        refine WL.pass (by decide) rfl rfl rfl ?_
        refine WL.pass (by decide) rfl rfl rfl ?_
        refine WL.pass (by decide) rfl rfl rfl ?_
        refine WL.pass (by decide) rfl rfl rfl ?_
        refine WL.pass (by decide) rfl rfl rfl ?_
        refine WL.pass (by decide) rfl rfl rfl ?_
        refine WL.pass (by decide) rfl rfl rfl ?_
        refine WL.op (by decide) (R.pickT rfl rfl) ?_
        refine WL.next ?_
        refine CW.condT rfl ?_
        refine CW.rseq ?_
        refine WL.op (by decide) (R.assign rfl) ?_
        refine WL.next ?_
        refine CW.ret ?_
        refine EW.thenRet ?_
        refine EW.ret1 (.inl rfl) rfl rfl ⟨?_, hC⟩
        exact congrArg (fun b => Ending.returned (.bool b)) (show _ = allM m from by unfold allM; first | (simp [*]; done) | (simp [*]; omega) | (simp [*]; intros; omega))
      · skip
        refine WL.op (by decide) (R.pickF rfl rfl) ?_
        refine WL.op (by decide) (R.move rfl) ?_
        refine WL.gop (by decide) rfl rfl rfl (FA33_4 rfl) ?_
        refine WL.gop (by decide) rfl rfl rfl (R.load Tryd.underlying3 rfl rfl (cell_at hB rfl)) ?_
        refine WL.gsplit _ (by decide) rfl rfl rfl (R.gtrD rfl rfl) (fun h4 => ?_) (fun h4 => ?_)
        · skip
          refine WL.op (by decide) (R.pickF rfl rfl) ?_
          refine WL.op (by decide) (R.move rfl) ?_
          refine WL.pass (by decide) rfl rfl rfl ?_
          refine WL.pass (by decide) rfl rfl rfl ?_
          refine WL.pass (by decide) rfl rfl rfl ?_
          refine WL.pass (by decide) rfl rfl rfl ?_
          refine WL.pass (by decide) rfl rfl rfl ?_
          refine WL.op (by decide) (R.pickT rfl rfl) ?_
          refine WL.op (by decide) (R.move rfl) ?_
          refine WL.pass (by decide) rfl rfl rfl ?_
          refine WL.pass (by decide) rfl rfl rfl ?_
          refine WL.pass (by decide) rfl rfl rfl ?_
          refine WL.pass (by decide) rfl rfl rfl ?_
          refine WL.op (by decide) (R.pickT rfl rfl) ?_
          refine WL.op (by decide) (R.move rfl) ?_
          refine WL.pass (by decide) rfl rfl rfl ?_
          refine WL.pass (by decide) rfl rfl rfl ?_
          refine WL.pass (by decide) rfl rfl rfl ?_
          refine WL.pass (by decide) rfl rfl rfl ?_
          refine WL.op (by decide) (R.pickT rfl rfl) ?_
          refine WL.op (by decide) (R.move rfl) ?_
          refine WL.pass (by decide) rfl rfl rfl ?_
          refine WL.pass (by decide) rfl rfl rfl ?_
          refine WL.pass (by decide) rfl rfl rfl ?_
          refine WL.pass (by decide) rfl rfl rfl ?_
          refine WL.pass (by decide) rfl rfl rfl ?_
          refine WL.pass (by decide) rfl rfl rfl ?_
          refine WL.pass (by decide) rfl rfl rfl ?_
          refine WL.pass (by decide) rfl rfl rfl ?_
          refine WL.op (by decide) (R.pickT rfl rfl) ?_
          refine WL.next ?_
          refine CW.condT rfl ?_
          refine CW.rseq ?_
          refine WL.op (by decide) (R.assign rfl) ?_
          refine WL.next ?_
          refine CW.ret ?_
          refine EW.thenRet ?_
          refine EW.ret1 (.inl rfl) rfl rfl ⟨?_, hC⟩
          exact congrArg (fun b => Ending.returned (.bool b)) (show _ = allM m from by unfold allM; first | (simp [*]; done) | (simp [*]; omega) | (simp [*]; intros; omega))
        · skip
          refine WL.op (by decide) (R.pickF rfl rfl) ?_
          refine WL.op (by decide) (R.move rfl) ?_
          refine WL.gop (by decide) rfl rfl rfl (FA33_5 rfl) ?_
          refine WL.gop (by decide) rfl rfl rfl (FA25_0 rfl) ?_
          refine WL.gop (by decide) rfl rfl rfl (R.load Tryd.underlying9 rfl rfl (cell_at hB rfl)) ?_
          refine WL.geff rfl rfl rfl (OP.call (by decide) Tryd.func50 (by kernel_rfl) (by kernel_rfl) rfl (names_any m.qname w1 hl1) ?_)
          rintro e w2 ⟨rfl, hc2⟩
          refine ⟨_, rfl, ?_⟩
          have hB := hc2.at hB (fun h => h)
          have hC := hC.trans hc2
          have hG := hG.kept hc2 (fun h => h)
          have hva := hva.kept hc2 (fun _ _ h => h)
          have hvb := hvb.kept hc2 (fun _ _ h => h)
          cases hn : namesL m.qname
          · skip
            refine WL.gop (by decide) rfl rfl rfl (R.not rfl) ?_
            refine WL.op (by decide) (R.pickF rfl rfl) ?_
            refine WL.op (by decide) (R.move rfl) ?_
            refine WL.pass (by decide) rfl rfl rfl ?_
            refine WL.pass (by decide) rfl rfl rfl ?_
            refine WL.pass (by decide) rfl rfl rfl ?_
            refine WL.pass (by decide) rfl rfl rfl ?_
            refine WL.op (by decide) (R.pickT rfl rfl) ?_
            refine WL.op (by decide) (R.move rfl) ?_
            refine WL.pass (by decide) rfl rfl rfl ?_
            refine WL.pass (by decide) rfl rfl rfl ?_
            refine WL.pass (by decide) rfl rfl rfl ?_
            refine WL.pass (by decide) rfl rfl rfl ?_
            refine WL.op (by decide) (R.pickT rfl rfl) ?_
            refine WL.op (by decide) (R.move rfl) ?_
            refine WL.pass (by decide) rfl rfl rfl ?_
            refine WL.pass (by decide) rfl rfl rfl ?_
            refine WL.pass (by decide) rfl rfl rfl ?_
            refine WL.pass (by decide) rfl rfl rfl ?_
            refine WL.pass (by decide) rfl rfl rfl ?_
            refine WL.pass (by decide) rfl rfl rfl ?_
            refine WL.pass (by decide) rfl rfl rfl ?_
            refine WL.pass (by decide) rfl rfl rfl ?_
            refine WL.op (by decide) (R.pickT rfl rfl) ?_
            refine WL.next ?_
            refine CW.condT rfl ?_
            refine CW.rseq ?_
            refine WL.op (by decide) (R.assign rfl) ?_
            refine WL.next ?_
            refine CW.ret ?_
            refine EW.thenRet ?_
            refine EW.ret1 (.inl rfl) rfl rfl ⟨?_, hC⟩
            exact congrArg (fun b => Ending.returned (.bool b)) (show _ = allM m from by unfold allM; first | (simp [*]; done) | (simp [*]; omega) | (simp [*]; intros; omega))
          · skip
            refine WL.gop (by decide) rfl rfl rfl (R.not rfl) ?_
            refine WL.op (by decide) (R.pickF rfl rfl) ?_
            refine WL.op (by decide) (R.move rfl) ?_
            refine WL.gop (by decide) rfl rfl rfl (FA33_5 rfl) ?_
            refine WL.gop (by decide) rfl rfl rfl (FA25_1 rfl) ?_
            refine WL.gop (by decide) rfl rfl rfl (R.load Tryd.underlying3 rfl rfl (cell_at hB rfl)) ?_
            refine WL.gsplit _ (by decide) rfl rfl rfl (R.lssD rfl rfl) (fun h5 => ?_) (fun h5 => ?_)
            · skip
              refine WL.op (by decide) (R.pickF rfl rfl) ?_
              refine WL.op (by decide) (R.move rfl) ?_
              refine WL.pass (by decide) rfl rfl rfl ?_
              refine WL.pass (by decide) rfl rfl rfl ?_
              refine WL.pass (by decide) rfl rfl rfl ?_
              refine WL.pass (by decide) rfl rfl rfl ?_
              refine WL.op (by decide) (R.pickT rfl rfl) ?_
              refine WL.op (by decide) (R.move rfl) ?_
              refine WL.pass (by decide) rfl rfl rfl ?_
              refine WL.pass (by decide) rfl rfl rfl ?_
              refine WL.pass (by decide) rfl rfl rfl ?_
              refine WL.pass (by decide) rfl rfl rfl ?_
              refine WL.pass (by decide) rfl rfl rfl ?_
              refine WL.pass (by decide) rfl rfl rfl ?_
              refine WL.pass (by decide) rfl rfl rfl ?_
              refine WL.pass (by decide) rfl rfl rfl ?_
              refine WL.op (by decide) (R.pickT rfl rfl) ?_
              refine WL.next ?_
              refine CW.condT rfl ?_
              refine CW.rseq ?_
              refine WL.op (by decide) (R.assign rfl) ?_
              refine WL.next ?_
              refine CW.ret ?_
              refine EW.thenRet ?_
              refine EW.ret1 (.inl rfl) rfl rfl ⟨?_, hC⟩
              exact congrArg (fun b => Ending.returned (.bool b)) (show _ = allM m from by unfold allM; first | (simp [*]; done) | (simp [*]; omega) | (simp [*]; intros; omega))
            · skip
              refine WL.op (by decide) (R.pickF rfl rfl) ?_
              refine WL.op (by decide) (R.move rfl) ?_
              refine WL.gop (by decide) rfl rfl rfl (FA33_5 rfl) ?_
              refine WL.gop (by decide) rfl rfl rfl (FA25_1 rfl) ?_
              refine WL.gop (by decide) rfl rfl rfl (R.load Tryd.underlying3 rfl rfl (cell_at hB rfl)) ?_
              refine WL.gsplit _ (by decide) rfl rfl rfl (R.gtrD rfl rfl) (fun h6 => ?_) (fun h6 => ?_)
              · skip
                refine WL.op (by decide) (R.pickF rfl rfl) ?_
                refine WL.op (by decide) (R.move rfl) ?_
                refine WL.pass (by decide) rfl rfl rfl ?_
                refine WL.pass (by decide) rfl rfl rfl ?_
                refine WL.pass (by decide) rfl rfl rfl ?_
                refine WL.pass (by decide) rfl rfl rfl ?_
                refine WL.pass (by decide) rfl rfl rfl ?_
                refine WL.pass (by decide) rfl rfl rfl ?_
                refine WL.pass (by decide) rfl rfl rfl ?_
                refine WL.pass (by decide) rfl rfl rfl ?_
                refine WL.op (by decide) (R.pickT rfl rfl) ?_
                refine WL.next ?_
                refine CW.condT rfl ?_
                refine CW.rseq ?_
                refine WL.op (by decide) (R.assign rfl) ?_
                refine WL.next ?_
                refine CW.ret ?_
                refine EW.thenRet ?_
                refine EW.ret1 (.inl rfl) rfl rfl ⟨?_, hC⟩
                exact congrArg (fun b => Ending.returned (.bool b)) (show _ = allM m from by unfold allM; first | (simp [*]; done) | (simp [*]; omega) | (simp [*]; intros; omega))
              · skip
                refine WL.op (by decide) (R.pickF rfl rfl) ?_
                refine WL.op (by decide) (R.move rfl) ?_
                refine WL.gop (by decide) rfl rfl rfl (FA33_6 rfl) ?_
                refine WL.gop (by decide) rfl rfl rfl (R.load Tryd.underlying31 rfl rfl (cell_at hB rfl)) ?_
                refine WL.gop (by decide) rfl rfl rfl (R.lenSlice rfl Tryd.underlying31 rfl) ?_
                refine WL.gop (by decide) rfl rfl rfl (FA33_7 rfl) ?_
                refine WL.gop (by decide) rfl rfl rfl (R.load Tryd.underlying31 rfl rfl (cell_at hB rfl)) ?_
                refine WL.gop (by decide) rfl rfl rfl (R.lenSlice rfl Tryd.underlying31 rfl) ?_
                refine WL.gop (by decide) rfl rfl rfl (R.add rfl rfl (by omega)) ?_
                refine WL.gsplit _ (by decide) rfl rfl rfl (R.gtrD rfl rfl) (fun h7 => ?_) (fun h7 => ?_)
                · skip
                  refine WL.op (by decide) (R.pickF rfl rfl) ?_
                  refine WL.next ?_
                  refine CW.condT rfl ?_
                  refine CW.rseq ?_
                  refine WL.op (by decide) (R.assign rfl) ?_
                  refine WL.next ?_
                  refine CW.ret ?_
                  refine EW.thenRet ?_
                  refine EW.ret1 (.inl rfl) rfl rfl ⟨?_, hC⟩
                  exact congrArg (fun b => Ending.returned (.bool b)) (show _ = allM m from by unfold allM; first | (simp [*]; done) | (simp [*]; omega) | (simp [*]; intros; omega))
                · skip
                  refine WL.op (by decide) (R.pickF rfl rfl) ?_
                  refine WL.next ?_
                  refine CW.condF rfl ?_
                  refine CW.skip ?_
                  refine EW.next ?_
                  refine CW.seq ?_
                  refine CW.rseq ?_
                  refine WL.op (by decide) (FA33_6 rfl) ?_
                  refine WL.op (by decide) (R.load Tryd.underlying31 rfl rfl (cell_at hB rfl)) ?_
                  refine WL.op (by decide) (FA33_7 rfl) ?_
                  refine WL.op (by decide) (R.load Tryd.underlying31 rfl rfl (cell_at hB rfl)) ?_
                  refine WL.op (by decide) (R.build (parts := [(0, _), (1, _)]) (vals := [(0, _), (1, _)]) rfl (fun w => build106 _ _ _ _ _ _ w)) ?_
                  refine WL.op (by decide) (R.move rfl) ?_
                  refine WL.next ?_
                  refine CW.block ?_
                  refine CW.loopK [58, 59] (fun k l wr => Chg (fun _ => False) w0 wr ∧ Glob wr ∧ RSl wr (.slice Aa m.ans.length ca) m.ans ∧ RSl wr (.slice Ab m.auth.length cb) m.auth ∧ ∃ (i : Nat) (ii : Int), i + k = 2 ∧ ii = (i : Int) ∧ l = [(58, .agg #[.slice Aa m.ans.length ca, .slice Ab m.auth.length cb]), (59, .int .i64 ii)] ∧ ∀ (j : Nat) (rs : List Rec), [m.ans, m.auth][j]? = some rs → j < i → rs.all rightR = true) (2) ?_ ?_
                  · exact ⟨hC, hG, hva, hvb, 0, 0, by omega, rfl, rfl, fun j rs _ h => by omega⟩
                  · rintro k l wr ⟨hC, hG, hva, hvb, i, ii, hk, rfl, rfl, hall⟩
                    refine CW.rseq ?_
                    refine WL.lssS (by decide) rfl rfl (fun h8 => ?_) (fun h8 => ?_)
                    · skip
                      refine WL.next ?_
                      refine CW.seq ?_
                      refine CW.condT rfl ?_
                      refine CW.skip ?_
                      refine EW.next ?_
                      refine CW.seq ?_
                      refine CW.block ?_
                      refine CW.rseq ?_
                      obtain ⟨rs, A, c, hrs, hv, hsl, hlr⟩ := elem_of hva hvb (i := i) (by omega)
                      have hfalse : rs.all rightR = false → allM m = false := all_bad hrs
                      refine WL.op (by decide) (R.index1 Tryd.underlying106 Tryd.underlying31 rfl sz31 rfl rfl rfl (by omega) hv) ?_
                      refine WL.op (by decide) (R.assign rfl) ?_
                      refine WL.next ?_
                      refine CW.rseq ?_
                      refine WL.op (by decide) (R.move rfl) ?_
                      refine WL.op (by decide) (R.lenSlice rfl Tryd.underlying31 rfl) ?_
                      refine WL.op (by decide) (R.move rfl) ?_
                      refine WL.next ?_
                      refine CW.block ?_
                      refine CW.loopK [58, 59, 62, 63, 64] (fun k l wi => Chg (fun _ => False) w0 wi ∧ Glob wi ∧ RSl wi (.slice Aa m.ans.length ca) m.ans ∧ RSl wi (.slice Ab m.auth.length cb) m.auth ∧ RSl wi (.slice A rs.length c) rs ∧ ∃ (j : Nat) (jj : Int), j + k = rs.length ∧ jj = (j : Int) ∧ l = [(58, .agg #[.slice Aa m.ans.length ca, .slice Ab m.auth.length cb]), (59, .int .i64 i), (62, .slice A rs.length c), (63, .int .i64 rs.length), (64, .int .i64 jj)] ∧ (rs.take j).all rightR = true) (rs.length) ?_ ?_
                      · exact ⟨hC, hG, hva, hvb, hsl, 0, 0, by omega, rfl, rfl, rfl⟩
                      · rintro k2 l wi ⟨hCi, hG2, hva2, hvb2, hsl2, j, jj, hk2, rfl, rfl, htk⟩
                        refine CW.rseq ?_
                        refine WL.lssS (by decide) rfl rfl (fun h9 => ?_) (fun h9 => ?_)
                        · skip
                          refine WL.next ?_
                          refine CW.seq ?_
                          refine CW.condT rfl ?_
                          refine CW.skip ?_
                          refine EW.next ?_
                          refine CW.seq ?_
                          refine CW.block ?_
                          refine CW.rseq ?_
                          obtain ⟨x, hx⟩ : ∃ x, rs[j]? = some x := ⟨rs[j]'(by omega), List.getElem?_eq_getElem _⟩
                          obtain ⟨hx16, _, g, o, rfl, hcell⟩ := hsl2.at hx
                          refine WL.op (by decide) (R.indexAddr1 (i := j) Tryd.underlying31 sz57 rfl rfl rfl (by omega)) ?_
                          refine WL.op (by decide) (R.loadR hx16 rfl hcell) ?_
                          refine WL.eff rfl (OP.allocR (by decide) ?_)
                          intro w3 hc3 hs3 hb3
                          refine WL.eff rfl (OP.storeR rfl rfl hx16 (by rfl) hb3 ?_)
                          intro w4 hc4 hs4 hb4
                          refine WL.next ?_
                          refine CW.rseq ?_
                          refine WL.op (by decide) (R.loadRB hx16 rfl hb4) ?_
                          have hc34 : Chg (fun _ => False) wi w4 := hc3.then hc4 (fun k hk e => by omega)
                          obtain ⟨hx1, hx2, hx3⟩ := hsm x (mem_of hrs hx)
                          refine WL.eff rfl (OP.call (by decide) Tryd.func41 (by kernel_rfl) (by kernel_rfl) rfl (mright_any x w4 hx16 (hG2.kept hc34 (fun h => h)) hx1 hx2 hx3) ?_)
                          rintro e w5 ⟨rfl, hc5⟩
                          refine ⟨_, rfl, ?_⟩
                          have hc35 := hc34.trans hc5
                          have hC := hCi.trans hc35
                          cases hr : rightR x
                          · skip
                            refine WL.op (by decide) (R.not rfl) ?_
                            refine WL.next ?_
                            refine CW.condT rfl ?_
                            refine CW.rseq ?_
                            refine WL.op (by decide) (R.assign rfl) ?_
                            refine WL.next ?_
                            refine CW.ret ?_
                            refine EW.inRet ?_
                            refine EW.thenRet ?_
                            refine EW.thenRet ?_
                            refine EW.inRet ?_
                            refine EW.inRet ?_
                            refine EW.thenRet ?_
                            refine EW.thenRet ?_
                            refine EW.inRet ?_
                            refine EW.thenRet ?_
                            refine EW.ret1 (.inl rfl) rfl rfl ⟨?_, hC⟩
                            exact congrArg (fun b => Ending.returned (.bool b)) (show _ = allM m from (hfalse (all_false hx hr)).symm)
                          · skip
                            refine WL.op (by decide) (R.not rfl) ?_
                            refine WL.next ?_
                            refine CW.condF rfl ?_
                            refine CW.skip ?_
                            refine EW.inNormal ?_
                            refine EW.next ?_
                            refine CW.region ?_
                            refine WL.op (by decide) (R.add rfl rfl (by omega)) ?_
                            refine WL.op (by decide) (R.move rfl) ?_
                            refine WL.nil ?_
                            exact EW.roundK [58, 59, 62, 63, 64] (k2 - 1) (by omega) ⟨hC, hG2.kept hc35 (fun h => h), hva2.kept hc35 (fun _ _ h => h), hvb2.kept hc35 (fun _ _ h => h), hsl2.kept hc35 (fun _ _ h => h), j + 1, _, by omega, by omega, rfl, all_take hx hr htk⟩
                        · skip
                          refine WL.next ?_
                          refine CW.seq ?_
                          refine CW.condF rfl ?_
                          refine CW.exit ?_
                          have hdone : rs.all rightR = true := by rwa [List.take_of_length_le (by omega)] at htk
                          refine EW.thenExit ?_
                          refine EW.thenExit ?_
                          refine EW.inHere ?_
                          refine EW.inNormal ?_
                          refine EW.next ?_
                          refine CW.region ?_
                          refine WL.op (by decide) (R.add rfl rfl (by omega)) ?_
                          refine WL.op (by decide) (R.move rfl) ?_
                          refine WL.nil ?_
                          exact EW.roundK [58, 59] (k - 1) (by omega) ⟨hCi, hG2, hva2, hvb2, i + 1, _, by omega, by omega, rfl, all_next hall hrs hdone⟩
                    · skip
                      refine WL.next ?_
                      refine CW.seq ?_
                      refine CW.condF rfl ?_
                      refine CW.exit ?_
                      refine EW.thenExit ?_
                      refine EW.thenExit ?_
                      refine EW.inHere ?_
                      refine EW.next ?_
                      refine CW.rseq ?_
                      refine WL.op (by decide) (R.assign rfl) ?_
                      refine WL.next ?_
                      refine CW.ret ?_
                      refine EW.ret1 (.inl rfl) rfl rfl ⟨?_, hC⟩
                      have ha := hall 0 _ rfl (by omega)
                      have hb := hall 1 _ rfl (by omega)
                      exact congrArg (fun b => Ending.returned (.bool b)) (show _ = allM m from by unfold allM; simp [*]; omega)
end Go.Proofs.YthcpjcgjmdfpjaaDoor

namespace Go.Proofs.YthcpjcgjmdfpjaaDoor

/-- A name's labels from a place on; 'r': where the reader goes on behind it. -/
def rdName (bs : List UInt8) : Nat → Nat → Nat → Nat → List (List UInt8) → Nat → Option (List UInt8 × Nat)
  | 0, _, _, _, _, _ => none
  | f + 1, a, hops, size, acc, r =>
    match bs[a]? with
    | none => none
    | some c =>
      if c.toNat = 0 then (if namesL (joinL acc) then some (joinL acc, if hops = 0 then a + 1 else r) else none)
      else if 192 ≤ c.toNat then
        match bs[a + 1]? with
        | none => none
        | some c2 => if hops = 16 then none else if a ≤ c.toNat % 64 * 256 + c2.toNat then none
          else rdName bs f (c.toNat % 64 * 256 + c2.toNat) (hops + 1) size acc (if hops = 0 then a + 2 else r)
      else if 63 < c.toNat ∨ bs.length < a + 1 + c.toNat ∨ 254 < size + (c.toNat + 1) then none
      else rdName bs f (a + 1 + c.toNat) hops (size + (c.toNat + 1)) (acc ++ [lower ((bs.drop (a + 1)).take c.toNat)]) r

section
variable {bs : List UInt8} {f a hops size : Nat} {acc : List (List UInt8)} {r : Nat} {c c2 : UInt8}
theorem rd_end (h : bs.length ≤ a) : rdName bs f a hops size acc r = none := by
  cases f with
  | zero => rfl
  | succ f => simp [rdName, List.getElem?_eq_none h]
theorem rd_zero (hc : bs[a]? = some c) (h0 : c.toNat = 0) : rdName bs (f + 1) a hops size acc r = if namesL (joinL acc) then some (joinL acc, if hops = 0 then a + 1 else r) else none := by
  simp only [rdName, hc, h0, if_true]
theorem rd_ptr_end (hc : bs[a]? = some c) (h0 : 192 ≤ c.toNat) (h : bs.length ≤ a + 1) : rdName bs (f + 1) a hops size acc r = none := by
  simp only [rdName, hc, List.getElem?_eq_none h]
  rw [if_neg (by omega), if_pos h0]
theorem rd_ptr_many (hc : bs[a]? = some c) (h0 : 192 ≤ c.toNat) (h : hops = 16) : rdName bs (f + 1) a hops size acc r = none := by
  simp only [rdName, hc]
  rw [if_neg (by omega), if_pos h0]
  cases bs[a + 1]? with
  | none => rfl
  | some c2 => simp only; rw [if_pos h]
theorem rd_ptr_ahead (hc : bs[a]? = some c) (h0 : 192 ≤ c.toNat) (hc2 : bs[a + 1]? = some c2) (h : a ≤ c.toNat % 64 * 256 + c2.toNat) : rdName bs (f + 1) a hops size acc r = none := by
  simp only [rdName, hc, hc2]
  rw [if_neg (by omega), if_pos h0]
  split <;> first | rfl | (rw [if_pos h])
theorem rd_ptr (hc : bs[a]? = some c) (h0 : 192 ≤ c.toNat) (hc2 : bs[a + 1]? = some c2) (hh : ¬ hops = 16) (h : ¬ a ≤ c.toNat % 64 * 256 + c2.toNat) :
    rdName bs (f + 1) a hops size acc r = rdName bs f (c.toNat % 64 * 256 + c2.toNat) (hops + 1) size acc (if hops = 0 then a + 2 else r) := by
  simp only [rdName, hc, hc2]
  rw [if_neg (by omega), if_pos h0, if_neg hh, if_neg h]
theorem rd_lab_bad (hc : bs[a]? = some c) (h0 : ¬ c.toNat = 0) (h1 : ¬ 192 ≤ c.toNat) (h : 63 < c.toNat ∨ bs.length < a + 1 + c.toNat ∨ 254 < size + (c.toNat + 1)) : rdName bs (f + 1) a hops size acc r = none := by
  simp only [rdName, hc]
  rw [if_neg h0, if_neg h1, if_pos h]
theorem rd_lab (hc : bs[a]? = some c) (h0 : ¬ c.toNat = 0) (h1 : ¬ 192 ≤ c.toNat) (h : ¬ (63 < c.toNat ∨ bs.length < a + 1 + c.toNat ∨ 254 < size + (c.toNat + 1))) :
    rdName bs (f + 1) a hops size acc r = rdName bs f (a + 1 + c.toNat) hops (size + (c.toNat + 1)) (acc ++ [lower ((bs.drop (a + 1)).take c.toNat)]) r := by
  simp only [rdName, hc]
  rw [if_neg h0, if_neg h1, if_neg h]
end

/-- What a name's reading leaves. -/
def NameRes (res : Option (List UInt8 × Nat)) (s : List UInt8) (a : Nat) (bad : Bool) : Prop :=
  match res with
  | some (s0, a0) => s = s0 ∧ a = a0 ∧ bad = false
  | none => s = [] ∧ bad = true
theorem NameRes.none {a : Nat} {res : Option (List UInt8 × Nat)} (h : res = none) : NameRes res [] a true := by subst h; exact ⟨rfl, rfl⟩

theorem joinL_snoc_length (acc : List (List UInt8)) (x : List UInt8) : (joinL (acc ++ [x])).length ≤ (joinL acc).length + (x.length + 1) := by
  rw [joinL_snoc]
  split
  · rename_i h; subst h; simp [joinL]
  · simp

theorem binOp_and63 (t : TypeId) (c : UInt8) : binOp .and t (.int .i64 (c.toNat : Int)) (.int .i64 63) = pure (.int .i64 ((c.toNat % 64 : Nat) : Int)) := by
  have hc := c.toNat_lt
  simp only [binOp, Op.intBits, ne_eq, not_true, ite_false]
  have hb : ∀ k : Nat, k < 18446744073709551616 → (BitVec.ofInt IntKind.i64.bits (k : Int)).toNat = k := by
    intro k hk
    show (BitVec.ofInt 64 (k : Int)).toNat = k
    simp; omega
  have e : (BitVec.ofInt IntKind.i64.bits (c.toNat : Int) &&& BitVec.ofInt IntKind.i64.bits 63).toNat = c.toNat % 64 := by
    rw [BitVec.toNat_and, hb _ (by omega), show (BitVec.ofInt IntKind.i64.bits 63).toNat = 63 from rfl]
    exact Nat.and_two_pow_sub_one_eq_mod c.toNat 6
  rw [e, IntWalk.i64_in _ (by omega)]
theorem R.and63 {l : Env} {w : World} {x y : Operand} {t ty : TypeId} {P : Program} {c : UInt8} (hx : ev l x = some (.int .i64 (c.toNat : Int))) (hy : ev l y = some (.int .i64 63)) : Runs P l (.binOp .and t x y ty) w (.int .i64 ((c.toNat % 64 : Nat) : Int)) w :=
  R.bin hx hy (binOp_and63 t c)
end Go.Proofs.YthcpjcgjmdfpjaaDoor

namespace Go.Proofs.YthcpjcgjmdfpjaaDoor
open Go Go.RowKit
set_option maxRecDepth 100000

theorem whole_any (rb : Nat) (A : Option Addr) (m c a : Nat) (B : Option Addr) (cap : Nat) (ls : List (List UInt8)) (w : World) (hR : RSt w rb A m c a false)
    (hA : ∀ (j : Nat) (s : List UInt8), ls[j]? = some s → ∃ g o, B = some ⟨g, o, none⟩ ∧ w.cell? ⟨g, o + j, none⟩ = some (sv s)) (hl : (joinL ls).length ≤ 1099511627776) (hn : ls.length ≤ 1099511627776) :
    Calls Tryd.prog 53 #[.pointer (some ⟨rb, 0, none⟩), .slice B ls.length cap] w fun e w' => e = .returned (sv (if namesL (joinL ls) then joinL ls else [])) ∧ RSt w' rb A m c a (!namesL (joinL ls)) ∧ Chg (fun k => k = rb) w w' := by
  refine calls_cw (args := [.pointer (some ⟨rb, 0, none⟩), .slice B ls.length cap]) Tryd.func53 rfl rfl ?_
  show CW _ _ _ 15 [(0, .pointer (some ⟨rb, 0, none⟩)), (1, .slice B ls.length cap)] w
  refine CW.rseq ?_
  refine WL.op (by decide) (R.assign rfl) ?_
  refine WL.next ?_
  refine CW.rseq ?_
  refine WL.op (by decide) (R.move rfl) ?_
  refine WL.eff rfl (OP.call (by decide) Tryd.func52 (by kernel_rfl) (by kernel_rfl) rfl (join_any B cap ls w hA hl hn) ?_)
  rintro e _ ⟨rfl, rfl⟩
  refine ⟨_, rfl, ?_⟩
  refine WL.op (by decide) (R.assign rfl) ?_
  refine WL.next ?_
  refine CW.seq ?_
  refine CW.rseq ?_
  refine WL.op (by decide) (R.move rfl) ?_
  refine WL.eff rfl (OP.call (by decide) Tryd.func50 (by kernel_rfl) (by kernel_rfl) rfl (names_any (joinL ls) w hl) ?_)
  rintro e w1 ⟨rfl, hc1⟩
  refine ⟨_, rfl, ?_⟩
  have hR1 := hc1.at hR (fun h => h)
  cases hb : namesL (joinL ls)
  · skip
    refine WL.op (by decide) (R.not rfl) ?_
    refine WL.next ?_
    refine CW.condT rfl ?_
    refine CW.rseq ?_
    refine WL.op (by decide) (R.move rfl) ?_
    refine WL.op (by decide) (R.nilCheck rfl) ?_
    refine WL.op (by decide) (FA100_2 rfl) ?_
    refine WL.eff rfl (OP.store1 sz4 rfl rfl rfl rfl hR1 (Nat.le_of_ble_eq_true rfl) rfl ?_)
    intro w2 hc2 _ hb2
    refine WL.next ?_
    refine CW.rseq ?_
    refine WL.op (by decide) (R.assign rfl) ?_
    refine WL.next ?_
    refine CW.ret ?_
    refine EW.thenRet ?_
    exact EW.ret1 (.inl rfl) rfl rfl ⟨rfl, hb2, (hc1.mono (fun _ _ h => h.elim)).trans hc2⟩
  · skip
    refine WL.op (by decide) (R.not rfl) ?_
    refine WL.next ?_
    refine CW.condF rfl ?_
    refine CW.skip ?_
    refine EW.next ?_
    refine CW.rseq ?_
    refine WL.op (by decide) (R.move rfl) ?_
    refine WL.op (by decide) (R.assign rfl) ?_
    refine WL.next ?_
    refine CW.ret ?_
    exact EW.ret1 (.inl rfl) rfl rfl ⟨rfl, hR1, hc1.mono (fun _ _ h => h.elim)⟩
end Go.Proofs.YthcpjcgjmdfpjaaDoor

namespace Go.Proofs.YthcpjcgjmdfpjaaDoor
open Go Go.RowKit
set_option maxRecDepth 100000
set_option maxHeartbeats 4000000

theorem SBuf.args {w : World} {base : Nat} {v : Value} {ls : List (List UInt8)} (h : SBuf w base v ls) : ∃ B cap, v = .slice B ls.length cap ∧ ∀ (j : Nat) (s : List UInt8), ls[j]? = some s → ∃ g o, B = some ⟨g, o, none⟩ ∧ w.cell? ⟨g, o + j, none⟩ = some (sv s) := by
  rcases h.open with ⟨rfl, rfl⟩ | ⟨g, cap, rfl, _, _, _, hcell⟩
  · exact ⟨none, 0, rfl, fun j s hj => by simp at hj⟩
  · exact ⟨some ⟨g, 0, none⟩, cap, rfl, fun j s hj => ⟨g, 0, rfl, by rw [Nat.zero_add]; exact hcell j s hj⟩⟩

theorem rname_ok (rb : Nat) (A : Option Addr) (mm c : Nat) (bs : List UInt8) (a : Nat) (w : World) (res : Option (List UInt8 × Nat)) (hR : RSt w rb A mm c a false) (hS : Src w A mm c bs) (hg : ∀ g o, A = some ⟨g, o, none⟩ → g ≠ rb) (_ha : a ≤ 1099511627776) (hm : mm ≤ 1099511627776) (hrb : rb < w.heap.size)
    (hres : rdName bs 300 a 0 0 [] a = res) :
    Calls Tryd.prog 46 #[.pointer (some ⟨rb, 0, none⟩)] w fun e w' => ∃ s a' bad', e = .returned (sv s) ∧ RSt w' rb A mm c a' bad' ∧ Chg (fun k => k = rb) w w' ∧ NameRes res s a' bad' := by
  have hlen := hS.len
  have hcap := hS.cap
  have hgl : mm ≠ 0 → ∀ g o, A = some ⟨g, o, none⟩ → g < w.heap.size := by
    intro h0 g o hA
    obtain ⟨g', o', hA', hcell⟩ := hS.cells h0
    rw [hA] at hA'; injection hA' with e; injection e with e1 e2; subst e1
    obtain ⟨b, hb⟩ : ∃ b, bs[0]? = some b := ⟨bs[0]'(by omega), List.getElem?_eq_getElem _⟩
    exact World.block_lt_of_cell? w _ (hcell 0 b hb)
  refine calls_cw (args := [.pointer (some ⟨rb, 0, none⟩)]) Tryd.func46 rfl rfl ?_
  show CW _ _ _ 141 [(0, .pointer (some ⟨rb, 0, none⟩))] w
  refine CW.rseq ?_
  refine WL.op (by decide) (R.assign rfl) ?_
  refine WL.next ?_
  refine CW.rseq ?_
  refine WL.op (by decide) (R.assign rfl) ?_
  refine WL.next ?_
  refine CW.rseq ?_
  refine WL.op (by decide) (R.move rfl) ?_
  refine WL.op (by decide) (R.nilCheck rfl) ?_
  refine WL.op (by decide) (FA100_1 rfl) ?_
  refine WL.op (by decide) (R.load Tryd.underlying3 rfl rfl (cell_at hR rfl)) ?_
  refine WL.op (by decide) (R.assign rfl) ?_
  refine WL.op (by decide) (R.assign rfl) ?_
  refine WL.op (by decide) (R.assign rfl) ?_
  refine WL.next ?_
  refine CW.seq ?_
  refine CW.block ?_
  refine CW.loopK [0, 3, 4, 5, 6] (fun m l wr => (∃ (a hops size : Nat) (acc : List (List UInt8)) (r : Nat) (v : Value) (ia ih isz : Int), l = [(0, .pointer (some ⟨rb, 0, none⟩)), (3, v), (4, .int .i64 ia), (5, .int .i64 ih), (6, .int .i64 isz)] ∧ ia = (a : Int) ∧ ih = (hops : Int) ∧ isz = (size : Int) ∧ hops ≤ 16 ∧ size ≤ 254 ∧ 300 ≤ m + hops + size ∧ rdName bs m a hops size acc r = res ∧ RSt wr rb A mm c r false ∧ Chg (fun k => k = rb) w wr ∧ Src wr A mm c bs ∧ SBuf wr w.heap.size v acc ∧ (joinL acc).length ≤ size ∧ acc.length ≤ size) ∨ (∃ (r : Nat) (v1 v2 v3 v4 : Value), l = [(0, .pointer (some ⟨rb, 0, none⟩)), (3, v1), (4, v2), (5, v3), (6, v4)] ∧ RSt wr rb A mm c r true ∧ Chg (fun k => k = rb) w wr ∧ res = none)) (300) ?_ ?_
  · exact Or.inl ⟨a, 0, 0, [], a, _, _, _, _, rfl, rfl, rfl, rfl, by omega, by omega, by omega, hres, hR, Chg.refl _ _, hS, World.ownsRow_nil _ _ _ _, by simp [joinL], by simp⟩
  · rintro m l wr (⟨a, hops, size, acc, r, v, ia, ih, isz, rfl, rfl, rfl, rfl, hh, hsz, hf, hE, hR, hC, hS, hB, hjl, hal⟩ | ⟨r, v1, v2, v3, v4, rfl, hR, hC, hE⟩)
    · skip
      refine CW.seq ?_
      refine CW.rseq ?_
      refine WL.op (by decide) (R.move rfl) ?_
      refine WL.op (by decide) (R.nilCheck rfl) ?_
      refine WL.op (by decide) (FA100_2 rfl) ?_
      refine WL.op (by decide) (R.load Tryd.underlying4 rfl rfl (cell_at hR rfl)) ?_
      refine WL.op (by decide) (R.not rfl) ?_
      refine WL.next ?_
      refine CW.condT rfl ?_
      refine CW.skip ?_
      refine EW.next ?_
      refine CW.block ?_
      refine CW.seq ?_
      refine CW.rseq ?_
      refine WL.op (by decide) (R.move rfl) ?_
      refine WL.op (by decide) (R.move rfl) ?_
      refine WL.op (by decide) (R.nilCheck rfl) ?_
      refine WL.op (by decide) (FA100_0 rfl) ?_
      refine WL.op (by decide) (R.load Tryd.underlying36 rfl rfl (cell_at hR rfl)) ?_
      refine WL.op (by decide) (R.lenSlice rfl Tryd.underlying36 rfl) ?_
      refine WL.geqS (by decide) rfl rfl (fun h1 => ?_) (fun h1 => ?_)
      · skip
        refine WL.next ?_
        refine CW.condT rfl ?_
        refine CW.exit ?_
        refine EW.thenExit ?_
        refine EW.inFar (by decide) ?_
        refine EW.thenExit ?_
        refine EW.inHere ?_
        refine EW.next ?_
        refine CW.rseq ?_
        refine WL.op (by decide) (R.move rfl) ?_
        refine WL.op (by decide) (R.nilCheck rfl) ?_
        refine WL.op (by decide) (FA100_2 rfl) ?_
        refine WL.eff rfl (OP.store1 sz4 rfl rfl rfl rfl hR (Nat.le_of_ble_eq_true rfl) rfl ?_)
        intro w2 hc2 _ hb2
        refine WL.next ?_
        refine CW.rseq ?_
        refine WL.op (by decide) (R.assign rfl) ?_
        refine WL.next ?_
        refine CW.ret ?_
        refine EW.ret1 (.inl rfl) rfl rfl ⟨_, _, _, rfl, hb2, hC.trans hc2, NameRes.none (hE ▸ rd_end (by omega))⟩
      · skip
        refine WL.next ?_
        refine CW.condF rfl ?_
        refine CW.skip ?_
        refine EW.next ?_
        refine CW.rseq ?_
        have hlt : a < bs.length := by omega
        obtain ⟨g, o, rfl, hcell⟩ := hS.cells (by omega)
        obtain ⟨ch, hc⟩ : ∃ c, bs[a]? = some c := ⟨bs[a], List.getElem?_eq_getElem hlt⟩
        have hch := ch.toNat_lt
        obtain ⟨f, rfl⟩ : ∃ f, m = f + 1 := ⟨m - 1, by omega⟩
        refine WL.op (by decide) (R.move rfl) ?_
        refine WL.op (by decide) (R.nilCheck rfl) ?_
        refine WL.op (by decide) (FA100_0 rfl) ?_
        refine WL.op (by decide) (R.load Tryd.underlying36 rfl rfl (cell_at hR rfl)) ?_
        refine WL.op (by decide) (R.move rfl) ?_
        refine WL.op (by decide) (R.indexAddr1 (i := a) Tryd.underlying36 sz5 rfl rfl rfl (by omega)) ?_
        refine WL.op (by decide) (R.load Tryd.underlying5 rfl rfl (by rw [Nat.mul_one]; exact hcell a ch hc)) ?_
        refine WL.op (by decide) (R.conv53 rfl) ?_
        refine WL.op (by decide) (R.assign rfl) ?_
        refine WL.next ?_
        refine CW.block ?_
        refine CW.rseq ?_
        refine WL.op (by decide) (R.move rfl) ?_
        refine WL.eqlS (by decide) rfl rfl (fun h2 => ?_) (fun h2 => ?_)
        · skip
          refine WL.op (by decide) (R.assign rfl) ?_
          refine WL.next ?_
          refine CW.condT rfl ?_
          refine CW.seq ?_
          refine CW.rseq ?_
          refine WL.op (by decide) (R.move rfl) ?_
          refine WL.eqlS (by decide) rfl rfl (fun h3 => ?_) (fun h3 => ?_)
          · skip
            refine WL.next ?_
            refine CW.condT rfl ?_
            refine CW.region ?_
            refine WL.op (by decide) (R.move rfl) ?_
            refine WL.op (by decide) (R.move rfl) ?_
            refine WL.op (by decide) (R.add rfl rfl (by omega)) ?_
            refine WL.op (by decide) (R.nilCheck rfl) ?_
            refine WL.op (by decide) (FA100_1 rfl) ?_
            refine WL.eff rfl (OP.store1 sz3 rfl rfl rfl rfl hR (Nat.le_of_ble_eq_true rfl) rfl ?_)
            intro w2 hc2 _ hb2
            have hR := hb2
            have hC := hC.trans hc2
            have hS := hS.kept hc2 hg
            have hB := hB.kept hc2 (fun k hk e => by have := hB.lt k hk; omega)
            refine WL.nil ?_
            refine EW.next ?_
            refine CW.rseq ?_
            refine WL.op (by decide) (R.move rfl) ?_
            refine WL.op (by decide) (R.move rfl) ?_
            have hz := rd_zero (bs := bs) (f := f) (hops := hops) (size := size) (acc := acc) (r := r) hc (by omega)
            obtain ⟨B, cap, rfl, hBa⟩ := hB.args
            refine WL.eff rfl (OP.call (by decide) Tryd.func53 (by kernel_rfl) (by kernel_rfl) rfl (whole_any rb _ mm c _ B cap acc _ hR hBa (by omega) (by omega)) ?_)
            rintro e w3 ⟨rfl, hR3, hc3⟩
            refine ⟨_, rfl, ?_⟩
            refine WL.op (by decide) (R.assign rfl) ?_
            refine WL.next ?_
            refine CW.ret ?_
            refine EW.inRet ?_
            refine EW.inRet ?_
            refine EW.thenRet ?_
            refine EW.inRet ?_
            refine EW.thenRet ?_
            rw [hz] at hE
            refine EW.ret1 (.inl rfl) rfl rfl ⟨_, _, _, rfl, hR3, hC.trans hc3, ?_⟩
            rw [← hE]
            cases hb : namesL (joinL acc)
            · exact ⟨rfl, rfl⟩
            · have e0 : hops = 0 := by omega
              subst e0; exact ⟨rfl, rfl, rfl⟩
          · skip
            refine WL.next ?_
            refine CW.condF rfl ?_
            refine CW.skip ?_
            refine EW.next ?_
            refine CW.rseq ?_
            refine WL.op (by decide) (R.move rfl) ?_
            refine WL.op (by decide) (R.move rfl) ?_
            have hz := rd_zero (bs := bs) (f := f) (hops := hops) (size := size) (acc := acc) (r := r) hc (by omega)
            obtain ⟨B, cap, rfl, hBa⟩ := hB.args
            refine WL.eff rfl (OP.call (by decide) Tryd.func53 (by kernel_rfl) (by kernel_rfl) rfl (whole_any rb _ mm c _ B cap acc _ hR hBa (by omega) (by omega)) ?_)
            rintro e w3 ⟨rfl, hR3, hc3⟩
            refine ⟨_, rfl, ?_⟩
            refine WL.op (by decide) (R.assign rfl) ?_
            refine WL.next ?_
            refine CW.ret ?_
            refine EW.inRet ?_
            refine EW.inRet ?_
            refine EW.thenRet ?_
            refine EW.inRet ?_
            refine EW.thenRet ?_
            rw [hz] at hE
            refine EW.ret1 (.inl rfl) rfl rfl ⟨_, _, _, rfl, hR3, hC.trans hc3, ?_⟩
            rw [← hE]
            cases hb : namesL (joinL acc)
            · exact ⟨rfl, rfl⟩
            · have e0 : ¬ hops = 0 := by omega
              rw [if_neg e0]; exact ⟨rfl, rfl, rfl⟩
        · skip
          refine WL.op (by decide) (R.assign rfl) ?_
          refine WL.next ?_
          refine CW.condF rfl ?_
          refine CW.rseq ?_
          refine WL.op (by decide) (R.move rfl) ?_
          refine WL.geqS (by decide) rfl rfl (fun h4 => ?_) (fun h4 => ?_)
          · skip
            refine WL.op (by decide) (R.assign rfl) ?_
            refine WL.next ?_
            refine CW.condT rfl ?_
            refine CW.seq ?_
            refine CW.rseq ?_
            refine WL.op (by decide) (R.move rfl) ?_
            refine WL.op (by decide) (R.add rfl rfl (by omega)) ?_
            refine WL.op (by decide) (R.move rfl) ?_
            refine WL.op (by decide) (R.nilCheck rfl) ?_
            refine WL.op (by decide) (FA100_0 rfl) ?_
            refine WL.op (by decide) (R.load Tryd.underlying36 rfl rfl (cell_at hR rfl)) ?_
            refine WL.op (by decide) (R.lenSlice rfl Tryd.underlying36 rfl) ?_
            refine WL.geqS (by decide) rfl rfl (fun h5 => ?_) (fun h5 => ?_)
            · skip
              refine WL.op (by decide) (R.move rfl) ?_
              refine WL.pass (by decide) rfl rfl rfl ?_
              refine WL.pass (by decide) rfl rfl rfl ?_
              refine WL.op (by decide) (R.pickT rfl rfl) ?_
              refine WL.next ?_
              refine CW.condT rfl ?_
              refine CW.rseq ?_
              refine WL.op (by decide) (R.move rfl) ?_
              refine WL.op (by decide) (R.nilCheck rfl) ?_
              refine WL.op (by decide) (FA100_2 rfl) ?_
              refine WL.eff rfl (OP.store1 sz4 rfl rfl rfl rfl hR (Nat.le_of_ble_eq_true rfl) rfl ?_)
              intro w2 hc2 _ hb2
              refine WL.next ?_
              refine CW.rseq ?_
              refine WL.op (by decide) (R.assign rfl) ?_
              refine WL.next ?_
              refine CW.ret ?_
              refine EW.thenRet ?_
              refine EW.inRet ?_
              refine EW.inRet ?_
              refine EW.thenRet ?_
              refine EW.inRet ?_
              refine EW.thenRet ?_
              refine EW.ret1 (.inl rfl) rfl rfl ⟨_, _, _, rfl, hb2, hC.trans hc2, NameRes.none (hE ▸ rd_ptr_end hc (by omega) (by omega))⟩
            · skip
              refine WL.op (by decide) (R.move rfl) ?_
              refine WL.gop (by decide) rfl rfl rfl (R.move rfl) ?_
              refine WL.gsplit _ (by decide) rfl rfl rfl (R.eqlD rfl rfl) (fun h6 => ?_) (fun h6 => ?_)
              · skip
                refine WL.op (by decide) (R.pickF rfl rfl) ?_
                refine WL.next ?_
                refine CW.condT rfl ?_
                refine CW.rseq ?_
                refine WL.op (by decide) (R.move rfl) ?_
                refine WL.op (by decide) (R.nilCheck rfl) ?_
                refine WL.op (by decide) (FA100_2 rfl) ?_
                refine WL.eff rfl (OP.store1 sz4 rfl rfl rfl rfl hR (Nat.le_of_ble_eq_true rfl) rfl ?_)
                intro w2 hc2 _ hb2
                refine WL.next ?_
                refine CW.rseq ?_
                refine WL.op (by decide) (R.assign rfl) ?_
                refine WL.next ?_
                refine CW.ret ?_
                refine EW.thenRet ?_
                refine EW.inRet ?_
                refine EW.inRet ?_
                refine EW.thenRet ?_
                refine EW.inRet ?_
                refine EW.thenRet ?_
                refine EW.ret1 (.inl rfl) rfl rfl ⟨_, _, _, rfl, hb2, hC.trans hc2, NameRes.none (hE ▸ rd_ptr_many hc (by omega) (by omega))⟩
              · skip
                refine WL.op (by decide) (R.pickF rfl rfl) ?_
                refine WL.next ?_
                refine CW.condF rfl ?_
                refine CW.skip ?_
                refine EW.next ?_
                refine CW.rseq ?_
                refine WL.op (by decide) (R.move rfl) ?_
                refine WL.op (by decide) (R.and63 rfl rfl) ?_
                refine WL.op (by decide) (R.shl rfl rfl (by omega) (by simp only [show (8 : Int).toNat = 8 from rfl, Int.reducePow]; omega)) ?_
                refine WL.op (by decide) (R.move rfl) ?_
                refine WL.op (by decide) (R.nilCheck rfl) ?_
                refine WL.op (by decide) (FA100_0 rfl) ?_
                refine WL.op (by decide) (R.load Tryd.underlying36 rfl rfl (cell_at hR rfl)) ?_
                refine WL.op (by decide) (R.move rfl) ?_
                refine WL.op (by decide) (R.add rfl rfl (by omega)) ?_
                have hlt2 : a + 1 < bs.length := by omega
                obtain ⟨c2, hcc⟩ : ∃ c, bs[a + 1]? = some c := ⟨bs[a + 1], List.getElem?_eq_getElem hlt2⟩
                have hc2l := c2.toNat_lt
                refine WL.op (by decide) (R.indexAddr1 (i := a + 1) Tryd.underlying36 sz5 rfl rfl rfl (by omega)) ?_
                refine WL.op (by decide) (R.load Tryd.underlying5 rfl rfl (by rw [Nat.mul_one]; exact hcell (a + 1) c2 hcc)) ?_
                refine WL.op (by decide) (R.conv53 rfl) ?_
                refine WL.op (by decide) (R.or256 rfl rfl (by omega)) ?_
                refine WL.op (by decide) (R.assign rfl) ?_
                refine WL.next ?_
                refine CW.seq ?_
                refine CW.rseq ?_
                refine WL.op (by decide) (R.move rfl) ?_
                refine WL.eqlS (by decide) rfl rfl (fun h7 => ?_) (fun h7 => ?_)
                · skip
                  refine WL.next ?_
                  refine CW.condT rfl ?_
                  refine CW.region ?_
                  refine WL.op (by decide) (R.move rfl) ?_
                  refine WL.op (by decide) (R.move rfl) ?_
                  refine WL.op (by decide) (R.add rfl rfl (by omega)) ?_
                  refine WL.op (by decide) (R.nilCheck rfl) ?_
                  refine WL.op (by decide) (FA100_1 rfl) ?_
                  refine WL.eff rfl (OP.store1 sz3 rfl rfl rfl rfl hR (Nat.le_of_ble_eq_true rfl) rfl ?_)
                  intro w2 hc2 _ hb2
                  have hR := hb2
                  have hC := hC.trans hc2
                  have hS := hS.kept hc2 hg
                  have hB := hB.kept hc2 (fun k hk e => by have := hB.lt k hk; omega)
                  refine WL.nil ?_
                  refine EW.next ?_
                  refine CW.seq ?_
                  refine CW.rseq ?_
                  refine WL.op (by decide) (R.move rfl) ?_
                  refine WL.op (by decide) (R.move rfl) ?_
                  refine WL.geqS (by decide) rfl rfl (fun h8 => ?_) (fun h8 => ?_)
                  · skip
                    refine WL.next ?_
                    refine CW.condT rfl ?_
                    refine CW.region ?_
                    refine WL.op (by decide) (R.move rfl) ?_
                    refine WL.op (by decide) (R.nilCheck rfl) ?_
                    refine WL.op (by decide) (FA100_2 rfl) ?_
                    refine WL.eff rfl (OP.store1 sz4 rfl rfl rfl rfl hR (Nat.le_of_ble_eq_true rfl) rfl ?_)
                    intro w2 hc2 _ hb2
                    refine WL.nil ?_
                    refine EW.next ?_
                    refine CW.rseq ?_
                    refine WL.op (by decide) (R.move rfl) ?_
                    refine WL.op (by decide) (R.add rfl rfl (by omega)) ?_
                    refine WL.op (by decide) (R.assign rfl) ?_
                    refine WL.next ?_
                    refine CW.region ?_
                    refine WL.op (by decide) (R.move rfl) ?_
                    refine WL.op (by decide) (R.assign rfl) ?_
                    refine WL.nil ?_
                    refine EW.inNormal ?_
                    refine EW.inNormal ?_
                    exact EW.roundK [0, 3, 4, 5, 6] f (by omega) (Or.inr ⟨_, _, _, _, _, rfl, hb2, hC.trans hc2, hE ▸ rd_ptr_ahead hc (by omega) hcc (by omega)⟩)
                  · skip
                    refine WL.next ?_
                    refine CW.condF rfl ?_
                    refine CW.skip ?_
                    refine EW.next ?_
                    refine CW.rseq ?_
                    refine WL.op (by decide) (R.move rfl) ?_
                    refine WL.op (by decide) (R.add rfl rfl (by omega)) ?_
                    refine WL.op (by decide) (R.assign rfl) ?_
                    refine WL.next ?_
                    refine CW.region ?_
                    refine WL.op (by decide) (R.move rfl) ?_
                    refine WL.op (by decide) (R.assign rfl) ?_
                    refine WL.nil ?_
                    refine EW.inNormal ?_
                    refine EW.inNormal ?_
                    rw [rd_ptr hc (by omega) hcc (by omega) (by omega), if_pos (by omega)] at hE
                    exact EW.roundK [0, 3, 4, 5, 6] f (by omega) (Or.inl ⟨_, hops + 1, size, acc, _, v, _, _, _, rfl, rfl, rfl, rfl, by omega, by omega, by omega, hE, hR, hC, hS, hB, by omega, by omega⟩)
                · skip
                  refine WL.next ?_
                  refine CW.condF rfl ?_
                  refine CW.skip ?_
                  refine EW.next ?_
                  refine CW.seq ?_
                  refine CW.rseq ?_
                  refine WL.op (by decide) (R.move rfl) ?_
                  refine WL.op (by decide) (R.move rfl) ?_
                  refine WL.geqS (by decide) rfl rfl (fun h9 => ?_) (fun h9 => ?_)
                  · skip
                    refine WL.next ?_
                    refine CW.condT rfl ?_
                    refine CW.region ?_
                    refine WL.op (by decide) (R.move rfl) ?_
                    refine WL.op (by decide) (R.nilCheck rfl) ?_
                    refine WL.op (by decide) (FA100_2 rfl) ?_
                    refine WL.eff rfl (OP.store1 sz4 rfl rfl rfl rfl hR (Nat.le_of_ble_eq_true rfl) rfl ?_)
                    intro w2 hc2 _ hb2
                    refine WL.nil ?_
                    refine EW.next ?_
                    refine CW.rseq ?_
                    refine WL.op (by decide) (R.move rfl) ?_
                    refine WL.op (by decide) (R.add rfl rfl (by omega)) ?_
                    refine WL.op (by decide) (R.assign rfl) ?_
                    refine WL.next ?_
                    refine CW.region ?_
                    refine WL.op (by decide) (R.move rfl) ?_
                    refine WL.op (by decide) (R.assign rfl) ?_
                    refine WL.nil ?_
                    refine EW.inNormal ?_
                    refine EW.inNormal ?_
                    exact EW.roundK [0, 3, 4, 5, 6] f (by omega) (Or.inr ⟨_, _, _, _, _, rfl, hb2, hC.trans hc2, hE ▸ rd_ptr_ahead hc (by omega) hcc (by omega)⟩)
                  · skip
                    refine WL.next ?_
                    refine CW.condF rfl ?_
                    refine CW.skip ?_
                    refine EW.next ?_
                    refine CW.rseq ?_
                    refine WL.op (by decide) (R.move rfl) ?_
                    refine WL.op (by decide) (R.add rfl rfl (by omega)) ?_
                    refine WL.op (by decide) (R.assign rfl) ?_
                    refine WL.next ?_
                    refine CW.region ?_
                    refine WL.op (by decide) (R.move rfl) ?_
                    refine WL.op (by decide) (R.assign rfl) ?_
                    refine WL.nil ?_
                    refine EW.inNormal ?_
                    refine EW.inNormal ?_
                    rw [rd_ptr hc (by omega) hcc (by omega) (by omega), if_neg (by omega)] at hE
                    exact EW.roundK [0, 3, 4, 5, 6] f (by omega) (Or.inl ⟨_, hops + 1, size, acc, _, v, _, _, _, rfl, rfl, rfl, rfl, by omega, by omega, by omega, hE, hR, hC, hS, hB, by omega, by omega⟩)
          · skip
            refine WL.op (by decide) (R.assign rfl) ?_
            refine WL.next ?_
            refine CW.condF rfl ?_
            refine CW.rseq ?_
            refine WL.op (by decide) (R.move rfl) ?_
            refine WL.op (by decide) (R.move rfl) ?_
            refine WL.op (by decide) (R.add rfl rfl (by omega)) ?_
            refine WL.op (by decide) (R.add rfl rfl (by omega)) ?_
            refine WL.op (by decide) (R.assign rfl) ?_
            refine WL.next ?_
            refine CW.seq ?_
            refine CW.rseq ?_
            refine WL.op (by decide) (R.move rfl) ?_
            refine WL.gtrS (by decide) rfl rfl (fun h10 => ?_) (fun h10 => ?_)
            · skip
              refine WL.op (by decide) (R.move rfl) ?_
              refine WL.pass (by decide) rfl rfl rfl ?_
              refine WL.pass (by decide) rfl rfl rfl ?_
              refine WL.pass (by decide) rfl rfl rfl ?_
              refine WL.pass (by decide) rfl rfl rfl ?_
              refine WL.pass (by decide) rfl rfl rfl ?_
              refine WL.pass (by decide) rfl rfl rfl ?_
              refine WL.pass (by decide) rfl rfl rfl ?_
              refine WL.pass (by decide) rfl rfl rfl ?_
              refine WL.pass (by decide) rfl rfl rfl ?_
              refine WL.pass (by decide) rfl rfl rfl ?_
              refine WL.op (by decide) (R.pickT rfl rfl) ?_
              refine WL.op (by decide) (R.move rfl) ?_
              refine WL.pass (by decide) rfl rfl rfl ?_
              refine WL.pass (by decide) rfl rfl rfl ?_
              refine WL.op (by decide) (R.pickT rfl rfl) ?_
              refine WL.next ?_
              refine CW.condT rfl ?_
              refine CW.rseq ?_
              refine WL.op (by decide) (R.move rfl) ?_
              refine WL.op (by decide) (R.nilCheck rfl) ?_
              refine WL.op (by decide) (FA100_2 rfl) ?_
              refine WL.eff rfl (OP.store1 sz4 rfl rfl rfl rfl hR (Nat.le_of_ble_eq_true rfl) rfl ?_)
              intro w2 hc2 _ hb2
              refine WL.next ?_
              refine CW.rseq ?_
              refine WL.op (by decide) (R.assign rfl) ?_
              refine WL.next ?_
              refine CW.ret ?_
              refine EW.thenRet ?_
              refine EW.inRet ?_
              refine EW.inRet ?_
              refine EW.thenRet ?_
              refine EW.inRet ?_
              refine EW.thenRet ?_
              refine EW.ret1 (.inl rfl) rfl rfl ⟨_, _, _, rfl, hb2, hC.trans hc2, NameRes.none (hE ▸ rd_lab_bad hc (by omega) (by omega) (by omega))⟩
            · skip
              refine WL.op (by decide) (R.move rfl) ?_
              refine WL.gop (by decide) rfl rfl rfl (R.move rfl) ?_
              refine WL.gop (by decide) rfl rfl rfl (R.add rfl rfl (by omega)) ?_
              refine WL.gop (by decide) rfl rfl rfl (R.move rfl) ?_
              refine WL.gop (by decide) rfl rfl rfl (R.add rfl rfl (by omega)) ?_
              refine WL.gop (by decide) rfl rfl rfl (R.move rfl) ?_
              refine WL.gop (by decide) rfl rfl rfl (R.nilCheck rfl) ?_
              refine WL.gop (by decide) rfl rfl rfl (FA100_0 rfl) ?_
              refine WL.gop (by decide) rfl rfl rfl (R.load Tryd.underlying36 rfl rfl (cell_at hR rfl)) ?_
              refine WL.gop (by decide) rfl rfl rfl (R.lenSlice rfl Tryd.underlying36 rfl) ?_
              refine WL.gsplit _ (by decide) rfl rfl rfl (R.gtrD rfl rfl) (fun h11 => ?_) (fun h11 => ?_)
              · skip
                refine WL.op (by decide) (R.pickF rfl rfl) ?_
                refine WL.op (by decide) (R.move rfl) ?_
                refine WL.pass (by decide) rfl rfl rfl ?_
                refine WL.pass (by decide) rfl rfl rfl ?_
                refine WL.op (by decide) (R.pickT rfl rfl) ?_
                refine WL.next ?_
                refine CW.condT rfl ?_
                refine CW.rseq ?_
                refine WL.op (by decide) (R.move rfl) ?_
                refine WL.op (by decide) (R.nilCheck rfl) ?_
                refine WL.op (by decide) (FA100_2 rfl) ?_
                refine WL.eff rfl (OP.store1 sz4 rfl rfl rfl rfl hR (Nat.le_of_ble_eq_true rfl) rfl ?_)
                intro w2 hc2 _ hb2
                refine WL.next ?_
                refine CW.rseq ?_
                refine WL.op (by decide) (R.assign rfl) ?_
                refine WL.next ?_
                refine CW.ret ?_
                refine EW.thenRet ?_
                refine EW.inRet ?_
                refine EW.inRet ?_
                refine EW.thenRet ?_
                refine EW.inRet ?_
                refine EW.thenRet ?_
                refine EW.ret1 (.inl rfl) rfl rfl ⟨_, _, _, rfl, hb2, hC.trans hc2, NameRes.none (hE ▸ rd_lab_bad hc (by omega) (by omega) (by omega))⟩
              · skip
                refine WL.op (by decide) (R.pickF rfl rfl) ?_
                refine WL.op (by decide) (R.move rfl) ?_
                refine WL.gop (by decide) rfl rfl rfl (R.move rfl) ?_
                refine WL.gsplit _ (by decide) rfl rfl rfl (R.gtrD rfl rfl) (fun h12 => ?_) (fun h12 => ?_)
                · skip
                  refine WL.op (by decide) (R.pickF rfl rfl) ?_
                  refine WL.next ?_
                  refine CW.condT rfl ?_
                  refine CW.rseq ?_
                  refine WL.op (by decide) (R.move rfl) ?_
                  refine WL.op (by decide) (R.nilCheck rfl) ?_
                  refine WL.op (by decide) (FA100_2 rfl) ?_
                  refine WL.eff rfl (OP.store1 sz4 rfl rfl rfl rfl hR (Nat.le_of_ble_eq_true rfl) rfl ?_)
                  intro w2 hc2 _ hb2
                  refine WL.next ?_
                  refine CW.rseq ?_
                  refine WL.op (by decide) (R.assign rfl) ?_
                  refine WL.next ?_
                  refine CW.ret ?_
                  refine EW.thenRet ?_
                  refine EW.inRet ?_
                  refine EW.inRet ?_
                  refine EW.thenRet ?_
                  refine EW.inRet ?_
                  refine EW.thenRet ?_
                  refine EW.ret1 (.inl rfl) rfl rfl ⟨_, _, _, rfl, hb2, hC.trans hc2, NameRes.none (hE ▸ rd_lab_bad hc (by omega) (by omega) (by omega))⟩
                · skip
                  refine WL.op (by decide) (R.pickF rfl rfl) ?_
                  refine WL.next ?_
                  refine CW.condF rfl ?_
                  refine CW.skip ?_
                  refine EW.next ?_
                  refine CW.rseq ?_
                  refine WL.op (by decide) (R.move rfl) ?_
                  refine WL.op (by decide) (R.move rfl) ?_
                  refine WL.op (by decide) (R.nilCheck rfl) ?_
                  refine WL.op (by decide) (FA100_0 rfl) ?_
                  refine WL.op (by decide) (R.load Tryd.underlying36 rfl rfl (cell_at hR rfl)) ?_
                  refine WL.op (by decide) (R.move rfl) ?_
                  refine WL.op (by decide) (R.add rfl rfl (by omega)) ?_
                  refine WL.op (by decide) (R.move rfl) ?_
                  refine WL.op (by decide) (R.add rfl rfl (by omega)) ?_
                  refine WL.op (by decide) (R.move rfl) ?_
                  refine WL.op (by decide) (R.add rfl rfl (by omega)) ?_
                  refine WL.op (by decide) (R.sliceIn Tryd.underlying36 sz5 rfl rfl rfl (lo := a + 1) (hi := a + 1 + ch.toNat) (by omega) (by omega) (by omega) (by omega)) ?_
                  refine WL.op (by decide) (R.strOf (s := (bs.drop (a + 1)).take ch.toNat) rfl (by rw [List.length_take, List.length_drop]; omega) (fun j b hj => by rw [List.getElem?_take] at hj; split at hj <;> first | (rw [List.getElem?_drop] at hj; rw [Nat.add_assoc]; exact hcell (a + 1 + j) b hj) | cases hj)) ?_
                  refine WL.eff rfl (OP.call (by decide) Tryd.func38 (by kernel_rfl) (by kernel_rfl) rfl (lower_any _ _ (by rw [List.length_take]; omega)) ?_)
                  rintro e w1 ⟨rfl, hc1⟩
                  refine ⟨_, rfl, ?_⟩
                  refine WL.eff rfl (OP.buildSliceS (by decide) rfl ?_)
                  intro w2 hc2 hs2 hb2
                  have hB2 := (hB.kept hc1 (fun _ _ h => h)).kept hc2 (fun _ _ h => h)
                  refine WL.eff rfl (OP.appendS (by decide) rfl rfl hB2 hb2 (by omega) (by have := hC.size; have := hc1.size; omega) ?_)
                  intro v2 w3 hB3 hM3
                  have hcm : Chg (fun k => w.heap.size ≤ k) wr w3 := ((hc1.trans hc2).mono (fun _ _ h => h.elim)).then (Chg.moved hM3) (fun k hk e => (hB2.lt k e.symm).1)
                  have hR3 : RSt w3 rb _ mm c r false := hcm.at hR (by omega)
                  have hC3 : Chg (fun k => k = rb) w w3 := hC.then hcm (fun k hk e => by omega)
                  have hS3 := hS.kept hcm (fun g o hA e => by have := hgl (by omega) g o hA; omega)
                  refine WL.op (by decide) (R.assign rfl) ?_
                  refine WL.next ?_
                  refine CW.region ?_
                  refine WL.op (by decide) (R.move rfl) ?_
                  refine WL.op (by decide) (R.move rfl) ?_
                  refine WL.op (by decide) (R.add rfl rfl (by omega)) ?_
                  refine WL.op (by decide) (R.add rfl rfl (by omega)) ?_
                  refine WL.op (by decide) (R.assign rfl) ?_
                  refine WL.nil ?_
                  refine EW.inNormal ?_
                  refine EW.inNormal ?_
                  rw [rd_lab hc (by omega) (by omega) (by omega)] at hE
                  have hjl := joinL_snoc_length acc (lower ((bs.drop (a + 1)).take ch.toNat))
                  rw [lower_length] at hjl
                  have htl : ((bs.drop (a + 1)).take ch.toNat).length ≤ ch.toNat := List.length_take_le _ _
                  exact EW.roundK [0, 3, 4, 5, 6] f (by omega) (Or.inl ⟨_, hops, _, _, r, v2, _, _, _, rfl, by omega, rfl, by omega, by omega, by omega, by omega, hE, hR3, hC3, hS3, hB3, by omega, by simp; omega⟩)
    · skip
      refine CW.seq ?_
      refine CW.rseq ?_
      refine WL.op (by decide) (R.move rfl) ?_
      refine WL.op (by decide) (R.nilCheck rfl) ?_
      refine WL.op (by decide) (FA100_2 rfl) ?_
      refine WL.op (by decide) (R.load Tryd.underlying4 rfl rfl (cell_at hR rfl)) ?_
      refine WL.op (by decide) (R.not rfl) ?_
      refine WL.next ?_
      refine CW.condF rfl ?_
      refine CW.exit ?_
      refine EW.thenExit ?_
      refine EW.thenExit ?_
      refine EW.inHere ?_
      refine EW.next ?_
      refine CW.rseq ?_
      refine WL.op (by decide) (R.move rfl) ?_
      refine WL.op (by decide) (R.nilCheck rfl) ?_
      refine WL.op (by decide) (FA100_2 rfl) ?_
      refine WL.eff rfl (OP.store1 sz4 rfl rfl rfl rfl hR (Nat.le_of_ble_eq_true rfl) rfl ?_)
      intro w2 hc2 _ hb2
      refine WL.next ?_
      refine CW.rseq ?_
      refine WL.op (by decide) (R.assign rfl) ?_
      refine WL.next ?_
      refine CW.ret ?_
      refine EW.ret1 (.inl rfl) rfl rfl ⟨_, _, _, rfl, hb2, hC.trans hc2, NameRes.none hE⟩
theorem rname_bad (rb : Nat) (A : Option Addr) (mm c : Nat) (a : Nat) (w : World) (hR : RSt w rb A mm c a true) :
    Calls Tryd.prog 46 #[.pointer (some ⟨rb, 0, none⟩)] w fun e w' => e = .returned (sv []) ∧ RSt w' rb A mm c a true ∧ Chg (fun k => k = rb) w w' := by
  refine calls_cw (args := [.pointer (some ⟨rb, 0, none⟩)]) Tryd.func46 rfl rfl ?_
  show CW _ _ _ 141 [(0, .pointer (some ⟨rb, 0, none⟩))] w
  refine CW.rseq ?_
  refine WL.op (by decide) (R.assign rfl) ?_
  refine WL.next ?_
  refine CW.rseq ?_
  refine WL.op (by decide) (R.assign rfl) ?_
  refine WL.next ?_
  refine CW.rseq ?_
  refine WL.op (by decide) (R.move rfl) ?_
  refine WL.op (by decide) (R.nilCheck rfl) ?_
  refine WL.op (by decide) (FA100_1 rfl) ?_
  refine WL.op (by decide) (R.load Tryd.underlying3 rfl rfl (cell_at hR rfl)) ?_
  refine WL.op (by decide) (R.assign rfl) ?_
  refine WL.op (by decide) (R.assign rfl) ?_
  refine WL.op (by decide) (R.assign rfl) ?_
  refine WL.next ?_
  refine CW.seq ?_
  refine CW.block ?_
  refine CW.loopK [0, 3, 4, 5, 6] (fun m l wr => ∃ (v1 v2 v3 v4 : Value), l = [(0, .pointer (some ⟨rb, 0, none⟩)), (3, v1), (4, v2), (5, v3), (6, v4)] ∧ RSt wr rb A mm c a true ∧ Chg (fun k => k = rb) w wr) (0) ?_ ?_
  · exact ⟨_, _, _, _, rfl, hR, Chg.refl _ _⟩
  · rintro m l wr ⟨v1, v2, v3, v4, rfl, hR, hC⟩
    refine CW.seq ?_
    refine CW.rseq ?_
    refine WL.op (by decide) (R.move rfl) ?_
    refine WL.op (by decide) (R.nilCheck rfl) ?_
    refine WL.op (by decide) (FA100_2 rfl) ?_
    refine WL.op (by decide) (R.load Tryd.underlying4 rfl rfl (cell_at hR rfl)) ?_
    refine WL.op (by decide) (R.not rfl) ?_
    refine WL.next ?_
    refine CW.condF rfl ?_
    refine CW.exit ?_
    refine EW.thenExit ?_
    refine EW.thenExit ?_
    refine EW.inHere ?_
    refine EW.next ?_
    refine CW.rseq ?_
    refine WL.op (by decide) (R.move rfl) ?_
    refine WL.op (by decide) (R.nilCheck rfl) ?_
    refine WL.op (by decide) (FA100_2 rfl) ?_
    refine WL.eff rfl (OP.store1 sz4 rfl rfl rfl rfl hR (Nat.le_of_ble_eq_true rfl) rfl ?_)
    intro w2 hc2 _ hb2
    refine WL.next ?_
    refine CW.rseq ?_
    refine WL.op (by decide) (R.assign rfl) ?_
    refine WL.next ?_
    refine CW.ret ?_
    exact EW.ret1 (.inl rfl) rfl rfl ⟨rfl, hb2, hC.trans hc2⟩
/-- Whatever the reader's state. -/
theorem rname_any (rb : Nat) (A : Option Addr) (mm c : Nat) (bs : List UInt8) (a : Nat) (bad : Bool) (w : World) (hR : RSt w rb A mm c a bad) (hS : Src w A mm c bs) (hg : ∀ g o, A = some ⟨g, o, none⟩ → g ≠ rb) (ha : a ≤ 1099511627776) (hm : mm ≤ 1099511627776) :
    Calls Tryd.prog 46 #[.pointer (some ⟨rb, 0, none⟩)] w fun e w' => ∃ s a' bad', e = .returned (sv s) ∧ RSt w' rb A mm c a' bad' ∧ Chg (fun k => k = rb) w w' ∧ (if bad = true then NameRes none s a' bad' else NameRes (rdName bs 300 a 0 0 [] a) s a' bad') := by
  cases bad with
  | true =>
    refine (rname_bad rb A mm c a w hR).mono ?_
    rintro e w' ⟨rfl, h1, h2⟩
    exact ⟨_, _, _, rfl, h1, h2, rfl, rfl⟩
  | false =>
    refine (rname_ok rb A mm c bs a w _ hR hS hg ha hm (Array.getElem?_eq_some_iff.1 hR).1 rfl).mono ?_
    rintro e w' ⟨s, a', bad', rfl, h1, h2, h3⟩
    exact ⟨s, a', bad', rfl, h1, h2, by simpa using h3⟩
end Go.Proofs.YthcpjcgjmdfpjaaDoor

namespace Go.Proofs.YthcpjcgjmdfpjaaDoor
open Go Go.RowKit
set_option maxRecDepth 100000

theorem numR_no {bs : List UInt8} {n a : Nat} {bad : Bool} (h : bad = true ∨ bs.length < a + n) : numR bs n a bad = (0, a, true) := if_pos h
theorem numR_yes {bs : List UInt8} {n a : Nat} (h : a + n ≤ bs.length) : numR bs n a false = (beNat ((bs.drop a).take n), a + n, false) := if_neg (by simp; omega)

theorem num_bad (rb : Nat) (A : Option Addr) (m c : Nat) (bs : List UInt8) (n a : Nat) (w : World) (hR : RSt w rb A m c a true) :
    Calls Tryd.prog 45 #[.pointer (some ⟨rb, 0, none⟩), .int .i64 n] w fun e w' => e = .returned (.int .i64 ((numR bs n a true).1 : Nat)) ∧ RSt w' rb A m c (numR bs n a true).2.1 (numR bs n a true).2.2 ∧ Chg (fun k => k = rb) w w' := by
  refine calls_cw (args := [.pointer (some ⟨rb, 0, none⟩), .int .i64 n]) Tryd.func45 rfl rfl ?_
  show CW _ _ _ 64 [(0, .pointer (some ⟨rb, 0, none⟩)), (1, .int .i64 n)] w
  refine CW.rseq ?_
  refine WL.op (by decide) (R.assign rfl) ?_
  refine WL.next ?_
  refine CW.seq ?_
  refine CW.seq ?_
  refine CW.draw (fun w => RSt w rb A m c a true) (by kernel_rfl) ?_
  refine AH.take 0 rfl (by kernel_rfl) (by kernel_rfl) (by kernel_rfl) (fun _ _ _ _ h => h) hR (by decide) (fun w hS => R.move rfl) ?_
  refine AH.take 1 rfl (by kernel_rfl) (by kernel_rfl) (by kernel_rfl) (fun _ _ _ _ h => h) hR (by decide) (fun w hS => R.nilCheck rfl) ?_
  refine AH.take 2 rfl (by kernel_rfl) (by kernel_rfl) (by kernel_rfl) (fun _ _ _ _ h => h) hR (by decide) (fun w hS => FA100_2 rfl) ?_
  refine AH.take 3 rfl (by kernel_rfl) (by kernel_rfl) (by kernel_rfl) (fun _ _ _ _ h => h) hR (by decide) (fun w hS => R.load Tryd.underlying4 rfl rfl (cell_at hS rfl)) ?_
  refine AH.take 4 rfl (by kernel_rfl) (by kernel_rfl) (by kernel_rfl) (fun _ _ _ _ h => h) hR (by decide) (fun w hS => R.move rfl) ?_
  refine AH.pass 5 rfl (by kernel_rfl) (by kernel_rfl) (by kernel_rfl) (fun _ _ _ _ h => h) hR (by decide) rfl rfl rfl ?_
  refine AH.pass 6 rfl (by kernel_rfl) (by kernel_rfl) (by kernel_rfl) (fun _ _ _ _ h => h) hR (by decide) rfl rfl rfl ?_
  refine AH.pass 7 rfl (by kernel_rfl) (by kernel_rfl) (by kernel_rfl) (fun _ _ _ _ h => h) hR (by decide) rfl rfl rfl ?_
  refine AH.pass 8 rfl (by kernel_rfl) (by kernel_rfl) (by kernel_rfl) (fun _ _ _ _ h => h) hR (by decide) rfl rfl rfl ?_
  refine AH.pass 9 rfl (by kernel_rfl) (by kernel_rfl) (by kernel_rfl) (fun _ _ _ _ h => h) hR (by decide) rfl rfl rfl ?_
  refine AH.pass 10 rfl (by kernel_rfl) (by kernel_rfl) (by kernel_rfl) (fun _ _ _ _ h => h) hR (by decide) rfl rfl rfl ?_
  refine AH.pass 11 rfl (by kernel_rfl) (by kernel_rfl) (by kernel_rfl) (fun _ _ _ _ h => h) hR (by decide) rfl rfl rfl ?_
  refine AH.pass 12 rfl (by kernel_rfl) (by kernel_rfl) (by kernel_rfl) (fun _ _ _ _ h => h) hR (by decide) rfl rfl rfl ?_
  refine AH.pass 13 rfl (by kernel_rfl) (by kernel_rfl) (by kernel_rfl) (fun _ _ _ _ h => h) hR (by decide) rfl rfl rfl ?_
  refine AH.pass 14 rfl (by kernel_rfl) (by kernel_rfl) (by kernel_rfl) (fun _ _ _ _ h => h) hR (by decide) rfl rfl rfl ?_
  refine AH.pass 15 rfl (by kernel_rfl) (by kernel_rfl) (by kernel_rfl) (fun _ _ _ _ h => h) hR (by decide) rfl rfl rfl ?_
  refine AH.pass 16 rfl (by kernel_rfl) (by kernel_rfl) (by kernel_rfl) (fun _ _ _ _ h => h) hR (by decide) rfl rfl rfl ?_
  refine AH.take 17 rfl (by kernel_rfl) (by kernel_rfl) (by kernel_rfl) (fun _ _ _ _ h => h) hR (by decide) (fun w hS => R.pickT rfl rfl) ?_
  refine AH.done (by kernel_rfl) ?_
  refine EW.next ?_
  refine CW.condT rfl ?_
  refine CW.rseq ?_
  refine WL.op (by decide) (R.move rfl) ?_
  refine WL.op (by decide) (R.nilCheck rfl) ?_
  refine WL.op (by decide) (FA100_2 rfl) ?_
  refine WL.eff rfl (OP.store1 sz4 rfl rfl rfl rfl hR (Nat.le_of_ble_eq_true rfl) rfl ?_)
  intro w2 hc2 _ hb2
  refine WL.next ?_
  refine CW.rseq ?_
  refine WL.op (by decide) (R.assign rfl) ?_
  refine WL.next ?_
  refine CW.ret ?_
  refine EW.thenRet ?_
  refine EW.ret1 (.inl rfl) rfl rfl ⟨?_, ?_, ?_⟩
  · rw [numR_no (.inl rfl)]; rfl
  · rw [numR_no (.inl rfl)]; exact hb2
  · exact (Chg.drew _ w).trans hc2
theorem num_short (rb : Nat) (A : Option Addr) (m c : Nat) (bs : List UInt8) (n a : Nat) (w : World) (hR : RSt w rb A m c a false) (hS : Src w A m c bs) (hn : n ≤ 4) (ha : a ≤ 1099511627776) (hm : m ≤ 1099511627776) (hs : bs.length < a + n) :
    Calls Tryd.prog 45 #[.pointer (some ⟨rb, 0, none⟩), .int .i64 n] w fun e w' => e = .returned (.int .i64 ((numR bs n a false).1 : Nat)) ∧ RSt w' rb A m c (numR bs n a false).2.1 (numR bs n a false).2.2 ∧ Chg (fun k => k = rb) w w' := by
  have hl := hS.len
  refine calls_cw (args := [.pointer (some ⟨rb, 0, none⟩), .int .i64 n]) Tryd.func45 rfl rfl ?_
  show CW _ _ _ 64 [(0, .pointer (some ⟨rb, 0, none⟩)), (1, .int .i64 n)] w
  refine CW.rseq ?_
  refine WL.op (by decide) (R.assign rfl) ?_
  refine WL.next ?_
  refine CW.seq ?_
  refine CW.seq ?_
  refine CW.draw (fun w => RSt w rb A m c a false) (by kernel_rfl) ?_
  refine AH.take 0 rfl (by kernel_rfl) (by kernel_rfl) (by kernel_rfl) (fun _ _ _ _ h => h) hR (by decide) (fun w hS => R.move rfl) ?_
  refine AH.take 1 rfl (by kernel_rfl) (by kernel_rfl) (by kernel_rfl) (fun _ _ _ _ h => h) hR (by decide) (fun w hS => R.nilCheck rfl) ?_
  refine AH.take 2 rfl (by kernel_rfl) (by kernel_rfl) (by kernel_rfl) (fun _ _ _ _ h => h) hR (by decide) (fun w hS => FA100_2 rfl) ?_
  refine AH.take 3 rfl (by kernel_rfl) (by kernel_rfl) (by kernel_rfl) (fun _ _ _ _ h => h) hR (by decide) (fun w hS => R.load Tryd.underlying4 rfl rfl (cell_at hS rfl)) ?_
  refine AH.take 4 rfl (by kernel_rfl) (by kernel_rfl) (by kernel_rfl) (fun _ _ _ _ h => h) hR (by decide) (fun w hS => R.move rfl) ?_
  refine AH.takeG 5 rfl (by kernel_rfl) (by kernel_rfl) (by kernel_rfl) (fun _ _ _ _ h => h) hR (by decide) rfl rfl rfl (fun w hS => R.move rfl) ?_
  refine AH.takeG 6 rfl (by kernel_rfl) (by kernel_rfl) (by kernel_rfl) (fun _ _ _ _ h => h) hR (by decide) rfl rfl rfl (fun w hS => R.nilCheck rfl) ?_
  refine AH.takeG 7 rfl (by kernel_rfl) (by kernel_rfl) (by kernel_rfl) (fun _ _ _ _ h => h) hR (by decide) rfl rfl rfl (fun w hS => FA100_1 rfl) ?_
  refine AH.takeG 8 rfl (by kernel_rfl) (by kernel_rfl) (by kernel_rfl) (fun _ _ _ _ h => h) hR (by decide) rfl rfl rfl (fun w hS => R.load Tryd.underlying3 rfl rfl (cell_at hS rfl)) ?_
  refine AH.takeG 9 rfl (by kernel_rfl) (by kernel_rfl) (by kernel_rfl) (fun _ _ _ _ h => h) hR (by decide) rfl rfl rfl (fun w hS => R.move rfl) ?_
  refine AH.takeG 10 rfl (by kernel_rfl) (by kernel_rfl) (by kernel_rfl) (fun _ _ _ _ h => h) hR (by decide) rfl rfl rfl (fun w hS => R.add rfl rfl (by omega)) ?_
  refine AH.takeG 11 rfl (by kernel_rfl) (by kernel_rfl) (by kernel_rfl) (fun _ _ _ _ h => h) hR (by decide) rfl rfl rfl (fun w hS => R.move rfl) ?_
  refine AH.takeG 12 rfl (by kernel_rfl) (by kernel_rfl) (by kernel_rfl) (fun _ _ _ _ h => h) hR (by decide) rfl rfl rfl (fun w hS => R.nilCheck rfl) ?_
  refine AH.takeG 13 rfl (by kernel_rfl) (by kernel_rfl) (by kernel_rfl) (fun _ _ _ _ h => h) hR (by decide) rfl rfl rfl (fun w hS => FA100_0 rfl) ?_
  refine AH.takeG 14 rfl (by kernel_rfl) (by kernel_rfl) (by kernel_rfl) (fun _ _ _ _ h => h) hR (by decide) rfl rfl rfl (fun w hS => R.load Tryd.underlying36 rfl rfl (cell_at hS rfl)) ?_
  refine AH.takeG 15 rfl (by kernel_rfl) (by kernel_rfl) (by kernel_rfl) (fun _ _ _ _ h => h) hR (by decide) rfl rfl rfl (fun w hS => R.lenSlice rfl Tryd.underlying36 rfl) ?_
  refine AH.takeG 16 rfl (by kernel_rfl) (by kernel_rfl) (by kernel_rfl) (fun _ _ _ _ h => h) hR (by decide) rfl rfl rfl (fun w hS => R.gtr rfl rfl (c := true) (decide_eq_true (by omega))) ?_
  refine AH.take 17 rfl (by kernel_rfl) (by kernel_rfl) (by kernel_rfl) (fun _ _ _ _ h => h) hR (by decide) (fun w hS => R.pickF rfl rfl) ?_
  refine AH.done (by kernel_rfl) ?_
  refine EW.next ?_
  refine CW.condT rfl ?_
  refine CW.rseq ?_
  refine WL.op (by decide) (R.move rfl) ?_
  refine WL.op (by decide) (R.nilCheck rfl) ?_
  refine WL.op (by decide) (FA100_2 rfl) ?_
  refine WL.eff rfl (OP.store1 sz4 rfl rfl rfl rfl hR (Nat.le_of_ble_eq_true rfl) rfl ?_)
  intro w2 hc2 _ hb2
  refine WL.next ?_
  refine CW.rseq ?_
  refine WL.op (by decide) (R.assign rfl) ?_
  refine WL.next ?_
  refine CW.ret ?_
  refine EW.thenRet ?_
  refine EW.ret1 (.inl rfl) rfl rfl ⟨?_, ?_, ?_⟩
  · rw [numR_no (.inr (by omega))]; rfl
  · rw [numR_no (.inr (by omega))]; exact hb2
  · exact (Chg.drew _ w).trans hc2
theorem num_ok (rb : Nat) (A : Option Addr) (m c : Nat) (bs : List UInt8) (n a : Nat) (w : World) (hR : RSt w rb A m c a false) (hS : Src w A m c bs) (hn : n ≤ 4) (ha : a ≤ 1099511627776) (hm : m ≤ 1099511627776) (hn0 : 0 < n) (hs : a + n ≤ bs.length) :
    Calls Tryd.prog 45 #[.pointer (some ⟨rb, 0, none⟩), .int .i64 n] w fun e w' => e = .returned (.int .i64 ((numR bs n a false).1 : Nat)) ∧ RSt w' rb A m c (numR bs n a false).2.1 (numR bs n a false).2.2 ∧ Chg (fun k => k = rb) w w' := by
  have hl := hS.len
  have hcp := hS.cap
  have hm0 : m ≠ 0 := by omega
  obtain ⟨g, o, hA, _⟩ := hS.cells hm0
  subst hA
  refine calls_cw (args := [.pointer (some ⟨rb, 0, none⟩), .int .i64 n]) Tryd.func45 rfl rfl ?_
  show CW _ _ _ 64 [(0, .pointer (some ⟨rb, 0, none⟩)), (1, .int .i64 n)] w
  refine CW.rseq ?_
  refine WL.op (by decide) (R.assign rfl) ?_
  refine WL.next ?_
  refine CW.seq ?_
  refine CW.seq ?_
  refine CW.draw (fun w => RSt w rb (some ⟨g, o, none⟩) m c a false) (by kernel_rfl) ?_
  refine AH.take 0 rfl (by kernel_rfl) (by kernel_rfl) (by kernel_rfl) (fun _ _ _ _ h => h) hR (by decide) (fun w hS => R.move rfl) ?_
  refine AH.take 1 rfl (by kernel_rfl) (by kernel_rfl) (by kernel_rfl) (fun _ _ _ _ h => h) hR (by decide) (fun w hS => R.nilCheck rfl) ?_
  refine AH.take 2 rfl (by kernel_rfl) (by kernel_rfl) (by kernel_rfl) (fun _ _ _ _ h => h) hR (by decide) (fun w hS => FA100_2 rfl) ?_
  refine AH.take 3 rfl (by kernel_rfl) (by kernel_rfl) (by kernel_rfl) (fun _ _ _ _ h => h) hR (by decide) (fun w hS => R.load Tryd.underlying4 rfl rfl (cell_at hS rfl)) ?_
  refine AH.take 4 rfl (by kernel_rfl) (by kernel_rfl) (by kernel_rfl) (fun _ _ _ _ h => h) hR (by decide) (fun w hS => R.move rfl) ?_
  refine AH.takeG 5 rfl (by kernel_rfl) (by kernel_rfl) (by kernel_rfl) (fun _ _ _ _ h => h) hR (by decide) rfl rfl rfl (fun w hS => R.move rfl) ?_
  refine AH.takeG 6 rfl (by kernel_rfl) (by kernel_rfl) (by kernel_rfl) (fun _ _ _ _ h => h) hR (by decide) rfl rfl rfl (fun w hS => R.nilCheck rfl) ?_
  refine AH.takeG 7 rfl (by kernel_rfl) (by kernel_rfl) (by kernel_rfl) (fun _ _ _ _ h => h) hR (by decide) rfl rfl rfl (fun w hS => FA100_1 rfl) ?_
  refine AH.takeG 8 rfl (by kernel_rfl) (by kernel_rfl) (by kernel_rfl) (fun _ _ _ _ h => h) hR (by decide) rfl rfl rfl (fun w hS => R.load Tryd.underlying3 rfl rfl (cell_at hS rfl)) ?_
  refine AH.takeG 9 rfl (by kernel_rfl) (by kernel_rfl) (by kernel_rfl) (fun _ _ _ _ h => h) hR (by decide) rfl rfl rfl (fun w hS => R.move rfl) ?_
  refine AH.takeG 10 rfl (by kernel_rfl) (by kernel_rfl) (by kernel_rfl) (fun _ _ _ _ h => h) hR (by decide) rfl rfl rfl (fun w hS => R.add rfl rfl (by omega)) ?_
  refine AH.takeG 11 rfl (by kernel_rfl) (by kernel_rfl) (by kernel_rfl) (fun _ _ _ _ h => h) hR (by decide) rfl rfl rfl (fun w hS => R.move rfl) ?_
  refine AH.takeG 12 rfl (by kernel_rfl) (by kernel_rfl) (by kernel_rfl) (fun _ _ _ _ h => h) hR (by decide) rfl rfl rfl (fun w hS => R.nilCheck rfl) ?_
  refine AH.takeG 13 rfl (by kernel_rfl) (by kernel_rfl) (by kernel_rfl) (fun _ _ _ _ h => h) hR (by decide) rfl rfl rfl (fun w hS => FA100_0 rfl) ?_
  refine AH.takeG 14 rfl (by kernel_rfl) (by kernel_rfl) (by kernel_rfl) (fun _ _ _ _ h => h) hR (by decide) rfl rfl rfl (fun w hS => R.load Tryd.underlying36 rfl rfl (cell_at hS rfl)) ?_
  refine AH.takeG 15 rfl (by kernel_rfl) (by kernel_rfl) (by kernel_rfl) (fun _ _ _ _ h => h) hR (by decide) rfl rfl rfl (fun w hS => R.lenSlice rfl Tryd.underlying36 rfl) ?_
  refine AH.takeG 16 rfl (by kernel_rfl) (by kernel_rfl) (by kernel_rfl) (fun _ _ _ _ h => h) hR (by decide) rfl rfl rfl (fun w hS => R.gtr rfl rfl (c := false) (decide_eq_false (by omega))) ?_
  refine AH.take 17 rfl (by kernel_rfl) (by kernel_rfl) (by kernel_rfl) (fun _ _ _ _ h => h) hR (by decide) (fun w hS => R.pickF rfl rfl) ?_
  refine AH.done (by kernel_rfl) ?_
  refine EW.next ?_
  refine CW.condF rfl ?_
  refine CW.skip ?_
  refine EW.next ?_
  refine CW.rseq ?_
  refine WL.op (by decide) (R.assign rfl) ?_
  refine WL.next ?_
  refine CW.seq ?_
  refine CW.seq ?_
  refine CW.draw (fun w => RSt w rb (some ⟨g, o, none⟩) m c a false) (by kernel_rfl) ?_
  refine AH.take 0 rfl (by kernel_rfl) (by kernel_rfl) (by kernel_rfl) (fun _ _ _ _ h => h) hR (by decide) (fun w hS => R.move rfl) ?_
  refine AH.take 1 rfl (by kernel_rfl) (by kernel_rfl) (by kernel_rfl) (fun _ _ _ _ h => h) hR (by decide) (fun w hS => R.nilCheck rfl) ?_
  refine AH.take 2 rfl (by kernel_rfl) (by kernel_rfl) (by kernel_rfl) (fun _ _ _ _ h => h) hR (by decide) (fun w hS => FA100_0 rfl) ?_
  refine AH.take 3 rfl (by kernel_rfl) (by kernel_rfl) (by kernel_rfl) (fun _ _ _ _ h => h) hR (by decide) (fun w hS => R.load Tryd.underlying36 rfl rfl (cell_at hS rfl)) ?_
  refine AH.take 4 rfl (by kernel_rfl) (by kernel_rfl) (by kernel_rfl) (fun _ _ _ _ h => h) hR (by decide) (fun w hS => R.move rfl) ?_
  refine AH.take 5 rfl (by kernel_rfl) (by kernel_rfl) (by kernel_rfl) (fun _ _ _ _ h => h) hR (by decide) (fun w hS => R.nilCheck rfl) ?_
  refine AH.take 6 rfl (by kernel_rfl) (by kernel_rfl) (by kernel_rfl) (fun _ _ _ _ h => h) hR (by decide) (fun w hS => FA100_1 rfl) ?_
  refine AH.take 7 rfl (by kernel_rfl) (by kernel_rfl) (by kernel_rfl) (fun _ _ _ _ h => h) hR (by decide) (fun w hS => R.load Tryd.underlying3 rfl rfl (cell_at hS rfl)) ?_
  refine AH.take 8 rfl (by kernel_rfl) (by kernel_rfl) (by kernel_rfl) (fun _ _ _ _ h => h) hR (by decide) (fun w hS => R.move rfl) ?_
  refine AH.take 9 rfl (by kernel_rfl) (by kernel_rfl) (by kernel_rfl) (fun _ _ _ _ h => h) hR (by decide) (fun w hS => R.nilCheck rfl) ?_
  refine AH.take 10 rfl (by kernel_rfl) (by kernel_rfl) (by kernel_rfl) (fun _ _ _ _ h => h) hR (by decide) (fun w hS => FA100_1 rfl) ?_
  refine AH.take 11 rfl (by kernel_rfl) (by kernel_rfl) (by kernel_rfl) (fun _ _ _ _ h => h) hR (by decide) (fun w hS => R.load Tryd.underlying3 rfl rfl (cell_at hS rfl)) ?_
  refine AH.take 12 rfl (by kernel_rfl) (by kernel_rfl) (by kernel_rfl) (fun _ _ _ _ h => h) hR (by decide) (fun w hS => R.move rfl) ?_
  refine AH.take 13 rfl (by kernel_rfl) (by kernel_rfl) (by kernel_rfl) (fun _ _ _ _ h => h) hR (by decide) (fun w hS => R.add rfl rfl (by omega)) ?_
  refine AH.take 14 rfl (by kernel_rfl) (by kernel_rfl) (by kernel_rfl) (fun _ _ _ _ h => h) hR (by decide) (fun w hS => R.sliceSl Tryd.underlying36 sz5 rfl rfl rfl rfl (hi := a + n) (by omega) (Nat.le_add_right _ _) (by omega)) ?_
  refine AH.take 15 rfl (by kernel_rfl) (by kernel_rfl) (by kernel_rfl) (fun _ _ _ _ h => h) hR (by decide) (fun w hS => R.lenSlice rfl Tryd.underlying36 rfl) ?_
  refine AH.take 16 rfl (by kernel_rfl) (by kernel_rfl) (by kernel_rfl) (fun _ _ _ _ h => h) hR (by decide) (fun w hS => R.move rfl) ?_
  refine AH.done (by kernel_rfl) ?_
  refine EW.next ?_
  refine CW.block ?_
  refine CW.loopK [0, 1, 5, 43, 44, 45] (fun k l wr => RSt wr rb (some ⟨g, o, none⟩) m c a false ∧ Chg (fun k => k = rb) w wr ∧ Src wr (some ⟨g, o, none⟩) m c bs ∧ ∃ (j : Nat) (i : Int), j + k = n ∧ i = (j : Int) ∧ l = [(0, .pointer (some ⟨rb, 0, none⟩)), (1, .int .i64 n), (5, .int .i64 (beNat ((bs.drop a).take j) : Nat)), (43, .slice (some ⟨g, o + a, none⟩) n (c - a)), (44, .int .i64 n), (45, .int .i64 i)]) (n) ?_ ?_
  · refine ⟨hR, (Chg.drew _ w).trans (Chg.drew _ _), hS.kept ((Chg.drew (fun _ => False) w).trans (Chg.drew _ _)) (fun _ _ _ h => h), 0, _, by omega, rfl, ?_⟩
    show [(0, _), (1, _), (5, _), (43, _), (44, _), (45, _)] = _
    simp only [if_neg (show ¬ c = a by omega), Nat.add_sub_cancel_left]
    rfl
  · rintro k l wr ⟨hR, hC, hS, j, i, hk, rfl, rfl⟩
    obtain ⟨g', o', hA', hcell⟩ := hS.cells hm0
    obtain ⟨rfl, rfl⟩ : g = g' ∧ o = o' := by injection hA' with e; injection e with e1 e2; exact ⟨e1, e2⟩
    refine CW.rseq ?_
    refine WL.lssS (by decide) rfl rfl (fun h1 => ?_) (fun h1 => ?_)
    · skip
      refine WL.next ?_
      refine CW.seq ?_
      refine CW.condT rfl ?_
      refine CW.skip ?_
      refine EW.next ?_
      refine CW.seq ?_
      refine CW.block ?_
      refine CW.rseq ?_
      have hlt : j < n := by omega
      obtain ⟨b, hb⟩ : ∃ b, (bs.drop a)[j]? = some b := ⟨(bs.drop a)[j]'(by rw [List.length_drop]; omega), List.getElem?_eq_getElem _⟩
      have hbt := beNat_take hb
      have hbl := beNat_take_lt (bs.drop a) (j := j) (by omega)
      refine WL.op (by decide) (R.indexAddr1 (i := j) Tryd.underlying36 sz5 rfl rfl rfl (by omega)) ?_
      refine WL.op (by decide) (R.load Tryd.underlying5 rfl rfl (by rw [Nat.mul_one, Nat.add_assoc]; exact hcell (a + j) b (by rw [List.getElem?_drop] at hb; exact hb))) ?_
      refine WL.op (by decide) (R.assign rfl) ?_
      refine WL.next ?_
      refine CW.region ?_
      refine WL.op (by decide) (R.move rfl) ?_
      refine WL.op (by decide) (R.shl rfl rfl (by omega) (by simp only [show (8 : Int).toNat = 8 from rfl, Int.reducePow]; omega)) ?_
      refine WL.op (by decide) (R.move rfl) ?_
      refine WL.op (by decide) (R.conv53 rfl) ?_
      refine WL.op (by decide) (R.or256 rfl rfl (by omega)) ?_
      refine WL.op (by decide) (R.assign rfl) ?_
      refine WL.nil ?_
      refine EW.inNormal ?_
      refine EW.next ?_
      refine CW.region ?_
      refine WL.op (by decide) (R.add rfl rfl (by omega)) ?_
      refine WL.op (by decide) (R.move rfl) ?_
      refine WL.nil ?_
      refine EW.roundK [0, 1, 5, 43, 44, 45] (k - 1) (by omega) ⟨hR, hC, hS, j + 1, (j : Int) + 1, by omega, by omega, ?_⟩
      rw [hbt]
      rfl
    · skip
      refine WL.next ?_
      refine CW.seq ?_
      refine CW.condF rfl ?_
      refine CW.exit ?_
      refine EW.thenExit ?_
      refine EW.thenExit ?_
      refine EW.inHere ?_
      refine EW.next ?_
      refine CW.rseq ?_
      refine WL.op (by decide) (R.move rfl) ?_
      refine WL.op (by decide) (R.nilCheck rfl) ?_
      refine WL.op (by decide) (FA100_1 rfl) ?_
      refine WL.op (by decide) (R.load Tryd.underlying3 rfl rfl (cell_at hR rfl)) ?_
      refine WL.op (by decide) (R.move rfl) ?_
      refine WL.op (by decide) (R.add rfl rfl (by omega)) ?_
      refine WL.op (by decide) (R.nilCheck rfl) ?_
      refine WL.op (by decide) (FA100_1 rfl) ?_
      refine WL.eff rfl (OP.store1 sz3 rfl rfl rfl rfl hR (Nat.le_of_ble_eq_true rfl) rfl ?_)
      intro w2 hc2 _ hb2
      refine WL.next ?_
      refine CW.rseq ?_
      refine WL.op (by decide) (R.move rfl) ?_
      refine WL.op (by decide) (R.assign rfl) ?_
      refine WL.next ?_
      refine CW.ret ?_
      refine EW.ret1 (.inl rfl) rfl rfl ⟨?_, ?_, ?_⟩
      · rw [numR_yes (by omega), show j = n by omega]
      · rw [numR_yes (by omega)]; exact hb2
      · exact hC.trans hc2

theorem num_any (rb : Nat) (A : Option Addr) (m c : Nat) (bs : List UInt8) (n a : Nat) (bad : Bool) (w : World) (hR : RSt w rb A m c a bad) (hS : Src w A m c bs) (hn : n ≤ 4) (hn0 : 0 < n) (ha : a ≤ 1099511627776) (hm : m ≤ 1099511627776) :
    Calls Tryd.prog 45 #[.pointer (some ⟨rb, 0, none⟩), .int .i64 n] w fun e w' => e = .returned (.int .i64 ((numR bs n a bad).1 : Nat)) ∧ RSt w' rb A m c (numR bs n a bad).2.1 (numR bs n a bad).2.2 ∧ Chg (fun k => k = rb) w w' := by
  cases bad with
  | true => exact num_bad rb A m c bs n a w hR
  | false =>
    by_cases h : a + n ≤ bs.length
    · exact num_ok rb A m c bs n a w hR hS hn ha hm hn0 h
    · exact num_short rb A m c bs n a w hR hS hn ha hm (by omega)
end Go.Proofs.YthcpjcgjmdfpjaaDoor

namespace Go.Proofs.YthcpjcgjmdfpjaaDoor
open Go Go.RowKit

/-- What stands behind a record's head: data from place a on, n bytes of them. -/
def recBody (bs : List UInt8) (nm : List UInt8) (ty : Nat) (ttl : Int) (a n : Nat) : Option Rec :=
  if ty = 1 ∧ n = 4 then some ⟨nm, ty, ttl, mappedL ++ (bs.drop a).take n, [], []⟩
  else if ty = 28 ∧ n = 16 then some ⟨nm, ty, ttl, (bs.drop a).take n, [], []⟩
  else if ty = 2 ∨ ty = 5 ∨ ty = 12 then
    match rdName bs 300 a 0 0 [] a with
    | some (t, e) => if e = a + n then some ⟨nm, ty, ttl, zero16, t, []⟩ else none
    | none => none
  else some ⟨nm, ty, ttl, zero16, [], (bs.drop a).take n⟩
def ttlOf (n : Nat) : Int := if (1048576 : Int) < (n : Int) then 1048576 else (n : Int)
/-- Only if it may be a record. -/
def finR (res : Option Rec) (e : Nat) : Option (Rec × Nat) :=
  match res with
  | none => none
  | some r => if rightR r then some (r, e) else none
/-- A record read at a place, and where the reader goes on. -/
def readRec (bs : List UInt8) (a : Nat) : Option (Rec × Nat) :=
  match rdName bs 300 a 0 0 [] a with
  | none => none
  | some (nm, a1) =>
    if bs.length < a1 + 10 then none
    else if beNat ((bs.drop (a1 + 2)).take 2) ≠ 1 then none
    else if bs.length < a1 + 10 + beNat ((bs.drop (a1 + 8)).take 2) then none
    else finR (recBody bs nm (beNat ((bs.drop a1).take 2)) (ttlOf (beNat ((bs.drop (a1 + 4)).take 4))) (a1 + 10) (beNat ((bs.drop (a1 + 8)).take 2))) (a1 + 10 + beNat ((bs.drop (a1 + 8)).take 2))

/-- What a record's reading leaves. -/
def RecRes (res : Option (Rec × Nat)) (r : Rec) (a : Nat) (bad : Bool) : Prop :=
  match res with
  | some (r0, a0) => r = r0 ∧ a = a0 ∧ bad = false
  | none => bad = true

theorem numR_cases {bs : List UInt8} {n a : Nat} {b : Bool} {v a' : Nat} {b' : Bool} (h : numR bs n a b = (v, a', b')) :
    (b' = true ∧ v = 0 ∧ a' = a ∧ (b = true ∨ bs.length < a + n)) ∨ (b' = false ∧ b = false ∧ a + n ≤ bs.length ∧ a' = a + n ∧ v = beNat ((bs.drop a).take n)) := by
  unfold numR at h
  split at h
  · rename_i hc
    injection h with h1 h; injection h with h2 h3
    exact .inl ⟨h3.symm, h1.symm, h2.symm, hc⟩
  · rename_i hc
    injection h with h1 h; injection h with h2 h3
    refine .inr ⟨h3.symm, ?_, by omega, h2.symm, h1.symm⟩
    cases b with
    | true => exact absurd (.inl rfl) hc
    | false => rfl
theorem numR_lt {bs : List UInt8} {n a : Nat} {b : Bool} {v a' : Nat} {b' : Bool} (h : numR bs n a b = (v, a', b')) (hn : n ≤ 4) : v < 4294967296 := by
  rcases numR_cases h with ⟨_, rfl, _⟩ | ⟨_, _, _, _, rfl⟩
  · decide
  · exact beNat_take_lt _ hn
theorem numR_lt2 {bs : List UInt8} {a : Nat} {b : Bool} {v a' : Nat} {b' : Bool} (h : numR bs 2 a b = (v, a', b')) : v < 65536 := by
  rcases numR_cases h with ⟨_, rfl, _⟩ | ⟨_, _, _, _, rfl⟩
  · decide
  · have := beNat_lt ((bs.drop a).take 2)
    refine Nat.lt_of_lt_of_le this ?_
    exact Nat.pow_le_pow_right (by decide) (List.length_take_le _ _)

/-- The reader is not bad just if it stands in its bytes. -/
def In (bs : List UInt8) (a : Nat) (b : Bool) : Prop := b = false → a ≤ bs.length
theorem numR_in {bs : List UInt8} {n a : Nat} {b : Bool} {v a' : Nat} {b' : Bool} (h : numR bs n a b = (v, a', b')) : In bs a' b' := by
  rcases numR_cases h with ⟨rfl, _⟩ | ⟨rfl, _, h1, rfl, _⟩
  · intro h; cases h
  · intro _; exact h1

theorem rdName_le (bs : List UInt8) : ∀ (f a hops size : Nat) (acc : List (List UInt8)) (r : Nat) (s : List UInt8) (e : Nat), (hops ≠ 0 → r ≤ bs.length) → rdName bs f a hops size acc r = some (s, e) → e ≤ bs.length := by
  intro f
  induction f with
  | zero => intro a hops size acc r s e _ h; cases h
  | succ f ih =>
    intro a hops size acc r s e hr h
    rw [rdName] at h
    cases hc : bs[a]? with
    | none => rw [hc] at h; cases h
    | some c =>
      have hlt := (List.getElem?_eq_some_iff.1 hc).1
      rw [hc] at h
      simp only at h
      split at h
      · split at h
        · injection h with h; injection h with h1 h2
          split at h2
          · omega
          · rename_i h3; have := hr h3; omega
        · cases h
      · split at h
        · cases hc2 : bs[a + 1]? with
          | none => rw [hc2] at h; cases h
          | some c2 =>
            have hlt2 := (List.getElem?_eq_some_iff.1 hc2).1
            rw [hc2] at h
            simp only at h
            split at h
            · cases h
            · split at h
              · cases h
              · refine ih _ _ _ _ _ _ _ (fun _ => ?_) h
                split
                · omega
                · rename_i h3; exact hr h3
        · split at h
          · cases h
          · exact ih _ _ _ _ _ _ _ hr h
theorem nres_in {bs : List UInt8} {a : Nat} {bad : Bool} {s : List UInt8} {a' : Nat} {b' : Bool} (h : if bad = true then NameRes none s a' b' else NameRes (rdName bs 300 a 0 0 [] a) s a' b') : In bs a' b' := by
  intro hb
  subst hb
  split at h
  · cases h.2
  · cases hr : rdName bs 300 a 0 0 [] a with
    | none => rw [hr] at h; cases h.2
    | some p =>
      obtain ⟨s0, a0⟩ := p
      rw [hr] at h
      obtain ⟨_, rfl, _⟩ := h
      exact rdName_le bs 300 a 0 0 [] a s0 a' (fun h => absurd rfl h) hr
theorem nres_ok {bs : List UInt8} {a : Nat} {bad : Bool} {s : List UInt8} {a' : Nat} (h : if bad = true then NameRes none s a' false else NameRes (rdName bs 300 a 0 0 [] a) s a' false) : bad = false ∧ rdName bs 300 a 0 0 [] a = some (s, a') := by
  split at h
  · cases h.2
  · rename_i hb
    refine ⟨by simpa using hb, ?_⟩
    cases hr : rdName bs 300 a 0 0 [] a with
    | none => rw [hr] at h; cases h.2
    | some p =>
      obtain ⟨s0, a0⟩ := p
      rw [hr] at h
      obtain ⟨rfl, rfl, _⟩ := h
      rfl
theorem nres_no {bs : List UInt8} {a : Nat} {bad : Bool} {s : List UInt8} {a' : Nat} (h : if bad = true then NameRes none s a' true else NameRes (rdName bs 300 a 0 0 [] a) s a' true) : bad = true ∨ rdName bs 300 a 0 0 [] a = none := by
  split at h
  · rename_i hb; exact .inl hb
  · cases hr : rdName bs 300 a 0 0 [] a with
    | none => exact .inr rfl
    | some p =>
      obtain ⟨s0, a0⟩ := p
      rw [hr] at h
      cases h.2.2

section
variable {bs : List UInt8} {a : Nat} {bad : Bool} {s : List UInt8} {a1 a2 a3 a4 a5 v2 v3 v4 v5 : Nat} {b1 b2 b3 b4 b5 : Bool}
theorem chain_ok (h1 : if bad = true then NameRes none s a1 b1 else NameRes (rdName bs 300 a 0 0 [] a) s a1 b1) (e2 : numR bs 2 a1 b1 = (v2, a2, b2)) (e3 : numR bs 2 a2 b2 = (v3, a3, b3)) (e4 : numR bs 4 a3 b3 = (v4, a4, b4)) (e5 : numR bs 2 a4 b4 = (v5, a5, b5)) (hb : b5 = false) :
    bad = false ∧ rdName bs 300 a 0 0 [] a = some (s, a1) ∧ a1 + 10 ≤ bs.length ∧ a5 = a1 + 10 ∧ v2 = beNat ((bs.drop a1).take 2) ∧ v3 = beNat ((bs.drop (a1 + 2)).take 2) ∧ v4 = beNat ((bs.drop (a1 + 4)).take 4) ∧ v5 = beNat ((bs.drop (a1 + 8)).take 2) := by
  subst hb
  rcases numR_cases e5 with ⟨h, _⟩ | ⟨_, rfl, h5, rfl, rfl⟩
  · cases h
  rcases numR_cases e4 with ⟨h, _⟩ | ⟨_, rfl, h4, rfl, rfl⟩
  · cases h
  rcases numR_cases e3 with ⟨h, _⟩ | ⟨_, rfl, h3, rfl, rfl⟩
  · cases h
  rcases numR_cases e2 with ⟨h, _⟩ | ⟨_, rfl, h2, rfl, rfl⟩
  · cases h
  obtain ⟨rfl, hn⟩ := nres_ok h1
  exact ⟨rfl, hn, by omega, by omega, rfl, rfl, rfl, rfl⟩
theorem chain_bad (h1 : if bad = true then NameRes none s a1 b1 else NameRes (rdName bs 300 a 0 0 [] a) s a1 b1) (e2 : numR bs 2 a1 b1 = (v2, a2, b2)) (e3 : numR bs 2 a2 b2 = (v3, a3, b3)) (e4 : numR bs 4 a3 b3 = (v4, a4, b4)) (e5 : numR bs 2 a4 b4 = (v5, a5, b5)) (hb : b5 = true ∨ (b5 = false ∧ v3 ≠ 1) ∨ (b5 = false ∧ bs.length < a5 + v5)) :
    (if bad = true then none else readRec bs a) = none := by
  cases b5 with
  | false =>
    obtain ⟨rfl, hn, hl, rfl, rfl, rfl, rfl, rfl⟩ := chain_ok h1 e2 e3 e4 e5 rfl
    rw [if_neg (by simp), readRec, hn]
    simp only
    rw [if_neg (by omega)]
    rcases hb with h | ⟨_, h⟩ | ⟨_, h⟩
    · cases h
    · rw [if_pos h]
    · split <;> first | rfl | (rw [if_pos h])
  | true =>
    cases bad with
    | true => rfl
    | false =>
      rw [if_neg (by simp), readRec]
      cases hr : rdName bs 300 a 0 0 [] a with
      | none => rfl
      | some p =>
        obtain ⟨s0, a0⟩ := p
        rw [if_neg (by simp), hr] at h1
        obtain ⟨rfl, rfl, rfl⟩ := h1
        simp only
        rw [if_pos]
        rcases numR_cases e5 with ⟨_, _, rfl, h5⟩ | ⟨h, _⟩
        · rcases numR_cases e4 with ⟨_, _, rfl, h4⟩ | ⟨rfl, rfl, h4, rfl, _⟩
          · rcases numR_cases e3 with ⟨_, _, rfl, h3⟩ | ⟨rfl, rfl, h3, rfl, _⟩
            · rcases numR_cases e2 with ⟨_, _, rfl, h2⟩ | ⟨rfl, h2, _, rfl, _⟩
              · rcases h2 with h | h
                · cases h
                · omega
              · rcases h3 with h | h
                · cases h
                · omega
            · rcases numR_cases e2 with ⟨h, _⟩ | ⟨_, _, h2, rfl, _⟩
              · cases h
              · rcases h4 with h | h
                · cases h
                · omega
          · rcases numR_cases e3 with ⟨h, _⟩ | ⟨_, rfl, h3, rfl, _⟩
            · cases h
            · rcases numR_cases e2 with ⟨h, _⟩ | ⟨_, _, h2, rfl, _⟩
              · cases h
              · rcases h5 with h | h
                · cases h
                · omega
        · cases h
/-- A record whose head is right. -/
theorem readRec_body (hn : rdName bs 300 a 0 0 [] a = some (s, a1)) (hl : a1 + 10 ≤ bs.length) (hc : beNat ((bs.drop (a1 + 2)).take 2) = 1) (h2 : a1 + 10 + beNat ((bs.drop (a1 + 8)).take 2) ≤ bs.length) :
    readRec bs a = finR (recBody bs s (beNat ((bs.drop a1).take 2)) (ttlOf (beNat ((bs.drop (a1 + 4)).take 4))) (a1 + 10) (beNat ((bs.drop (a1 + 8)).take 2))) (a1 + 10 + beNat ((bs.drop (a1 + 8)).take 2)) := by
  rw [readRec, hn]
  simp only
  rw [if_neg (by omega), if_neg (by simp [hc]), if_neg (by omega)]
theorem readRec_le {r : Rec} {e : Nat} (h : readRec bs a = some (r, e)) : e ≤ bs.length ∧ r.addr.length = 16 ∧ rightR r = true := by
  unfold readRec at h
  cases hr : rdName bs 300 a 0 0 [] a with
  | none => rw [hr] at h; cases h
  | some p =>
    obtain ⟨s0, a0⟩ := p
    rw [hr] at h
    simp only at h
    split at h
    · cases h
    · split at h
      · cases h
      · split at h
        · cases h
        · rename_i h1 h2 h3
          cases hb : recBody bs s0 (beNat ((bs.drop a0).take 2)) (ttlOf (beNat ((bs.drop (a0 + 4)).take 4))) (a0 + 10) (beNat ((bs.drop (a0 + 8)).take 2)) with
          | none => rw [hb] at h; cases h
          | some r0 =>
            rw [hb] at h
            simp only [finR] at h
            split at h
            · rename_i hrr
              injection h with h; injection h with h4 h5
              subst h4
              refine ⟨by omega, ?_, hrr⟩
              unfold recBody at hb
              split at hb
              · rename_i hq; obtain rfl := Option.some.inj hb
                simp only [List.length_append, List.length_take, List.length_drop, mappedL, List.length_cons, List.length_nil]
                omega
              · split at hb
                · rename_i hq; obtain rfl := Option.some.inj hb
                  simp only [List.length_take, List.length_drop]
                  omega
                · split at hb
                  · split at hb
                    · split at hb
                      · obtain rfl := Option.some.inj hb; rfl
                      · cases hb
                    · cases hb
                  · obtain rfl := Option.some.inj hb; rfl
            · cases h
end

/-- (*reader).num, in any state. -/
theorem num_st (rb : Nat) (A : Option Addr) (m c : Nat) (bs : List UInt8) (n a : Nat) (bad : Bool) (w : World) (hR : RSt w rb A m c a bad) (hS : Src w A m c bs) (hn : n ≤ 4) (hn0 : 0 < n) (ha : In bs a bad) (hm : m ≤ 1099511627776) :
    Calls Tryd.prog 45 #[.pointer (some ⟨rb, 0, none⟩), .int .i64 n] w fun e w' => ∃ v a' b', numR bs n a bad = (v, a', b') ∧ e = .returned (.int .i64 (v : Nat)) ∧ RSt w' rb A m c a' b' ∧ Chg (fun k => k = rb) w w' := by
  have key : Calls Tryd.prog 45 #[.pointer (some ⟨rb, 0, none⟩), .int .i64 n] w fun e w' => e = .returned (.int .i64 ((numR bs n a bad).1 : Nat)) ∧ RSt w' rb A m c (numR bs n a bad).2.1 (numR bs n a bad).2.2 ∧ Chg (fun k => k = rb) w w' := by
    cases bad with
    | true => exact num_bad rb A m c bs n a w hR
    | false => exact num_any rb A m c bs n a false w hR hS hn hn0 (by have := ha rfl; have := hS.len; omega) hm
  refine key.mono ?_
  rintro e w' ⟨rfl, h1, h2⟩
  exact ⟨_, _, _, rfl, rfl, h1, h2⟩
/-- (*reader).name, in any state. -/
theorem rname_st (rb : Nat) (A : Option Addr) (mm c : Nat) (bs : List UInt8) (a : Nat) (bad : Bool) (w : World) (hR : RSt w rb A mm c a bad) (hS : Src w A mm c bs) (hg : ∀ g o, A = some ⟨g, o, none⟩ → g ≠ rb) (ha : In bs a bad) (hm : mm ≤ 1099511627776) :
    Calls Tryd.prog 46 #[.pointer (some ⟨rb, 0, none⟩)] w fun e w' => ∃ s a' bad', e = .returned (sv s) ∧ RSt w' rb A mm c a' bad' ∧ Chg (fun k => k = rb) w w' ∧ (if bad = true then NameRes none s a' bad' else NameRes (rdName bs 300 a 0 0 [] a) s a' bad') ∧ s.length ≤ 253 := by
  have key : Calls Tryd.prog 46 #[.pointer (some ⟨rb, 0, none⟩)] w fun e w' => ∃ s a' bad', e = .returned (sv s) ∧ RSt w' rb A mm c a' bad' ∧ Chg (fun k => k = rb) w w' ∧ (if bad = true then NameRes none s a' bad' else NameRes (rdName bs 300 a 0 0 [] a) s a' bad') := by
    cases bad with
    | true =>
      refine (rname_bad rb A mm c a w hR).mono ?_
      rintro e w' ⟨rfl, h1, h2⟩
      exact ⟨_, _, _, rfl, h1, h2, rfl, rfl⟩
    | false =>
      refine (rname_ok rb A mm c bs a w _ hR hS hg (by have := ha rfl; have := hS.len; omega) hm (Array.getElem?_eq_some_iff.1 hR).1 rfl).mono ?_
      rintro e w' ⟨s, a', bad', rfl, h1, h2, h3⟩
      exact ⟨s, a', bad', rfl, h1, h2, by simpa using h3⟩
  refine key.mono ?_
  rintro e w' ⟨s, a', bad', rfl, h1, h2, h3⟩
  refine ⟨s, a', bad', rfl, h1, h2, h3, ?_⟩
  have hnm : ∀ (f a hops size : Nat) (acc : List (List UInt8)) (r : Nat) (s : List UInt8) (e : Nat), rdName bs f a hops size acc r = some (s, e) → s.length ≤ 253 := by
    intro f
    induction f with
    | zero => intro a hops size acc r s e h; cases h
    | succ f ih =>
      intro a hops size acc r s e h
      rw [rdName] at h
      cases hc : bs[a]? with
      | none => rw [hc] at h; cases h
      | some c =>
        rw [hc] at h
        simp only at h
        split at h
        · split at h
          · rename_i hn
            injection h with h; injection h with h1 h2
            subst h1
            unfold namesL at hn
            simp only [Bool.and_eq_true, decide_eq_true_eq] at hn
            exact hn.1.1
          · cases h
        · split at h
          · cases hc2 : bs[a + 1]? with
            | none => rw [hc2] at h; cases h
            | some c2 =>
              rw [hc2] at h
              simp only at h
              split at h
              · cases h
              · split at h
                · cases h
                · exact ih _ _ _ _ _ _ _ h
          · split at h
            · cases h
            · exact ih _ _ _ _ _ _ _ h
  cases bad' with
  | true =>
    have : s = [] := by
      split at h3
      · exact h3.1
      · cases hr : rdName bs 300 a 0 0 [] a with
        | none => rw [hr] at h3; exact h3.1
        | some p => obtain ⟨s0, a0⟩ := p; rw [hr] at h3; cases h3.2.2
    subst this; simp
  | false => exact hnm _ _ _ _ _ _ _ _ (nres_ok h3).2
end Go.Proofs.YthcpjcgjmdfpjaaDoor
