/- Words, contracts and walks that several statements share (WordsTrans): Fit13, TBuild, TransOps. -/
import Derived.Test.YthcpjcgjmdfpjaaDoorCoreE
import Derived.Test.YthcpjcgjmdfpjaaDoorCoreF
namespace Go.Proofs.YthcpjcgjmdfpjaaDoor
open Go Go.RowKit
set_option maxRecDepth 100000
set_option maxHeartbeats 4000000

theorem build29_3 (s : List UInt8) (ty id port : Int) (w : World) : (Instr.build 29 #[(0, .agg #[sv s, .int .i64 ty]), (4, .int .i64 id), (5, .int .i64 port)]).run Tryd.prog w = .ok (Tr.val ⟨s, ty, 0, 0, zero16, id, port, false, false, 0⟩) w := by unfold sv; kernel_rfl
theorem build33_015 (id : Int) (r : Bool) (s : List UInt8) (t : Int) (w : World) : (Instr.build 33 #[(0, .int .i64 id), (1, .bool r), (5, .agg #[sv s, .int .i64 t])]).run Tryd.prog w = .ok (.agg (Msg.cells ⟨id, r, false, false, 0, s, t, [], []⟩ (.slice none 0 0) (.slice none 0 0)).toArray) w := by unfold sv; kernel_rfl
theorem inf29 : ∃ i, Tryd.prog.info? 29 = some i ∧ i.size = 25 := inf_of sz29
theorem enc5 : (enc ⟨5, true, false, false, 0, [97], 1, [], []⟩) = [0, 5, 128, 0, 0, 1, 0, 0, 0, 0, 0, 0, 1, 97, 0, 0, 1, 0, 1] := by kernel_rfl
theorem rt5 : decode (enc ⟨5, true, false, false, 0, [97], 1, [], []⟩) = some ⟨5, true, false, false, 0, [97], 1, [], []⟩ := by kernel_rfl
theorem Buf.src {w : World} {base g cap : Nat} {bs : List UInt8} (_h : Buf w base (.slice (some ⟨g, 0, none⟩) bs.length cap) bs) (hle : bs.length ≤ cap) (hc : ∀ (j : Nat) (b : UInt8), bs[j]? = some b → w.cell? ⟨g, j, none⟩ = some (u8v b)) : Src w (some ⟨g, 0, none⟩) bs.length cap bs :=
  ⟨rfl, hle, fun _ => ⟨g, 0, rfl, fun j b hj => by rw [Nat.zero_add]; exact hc j b hj⟩⟩
theorem match_yes {t : Tr} {link gen : Int} {frm : List UInt8} {port : Int} {base : Nat} {m : Msg} {e : Ending} {w : World} (h1 : passT t link gen frm port = true) (h2 : ansT t m = true) (h : MatchRes t link gen frm port base (some m) e w) : ∃ v, e = .returned (.tuple #[v, .bool true]) ∧ MVF base w v m := by
  unfold MatchRes at h
  simp only at h
  rw [if_pos h1, h2] at h
  exact h
theorem draw5 (w : World) : Calls Tryd.prog 26 #[.int .i64 5] w fun e w' => e = .returned (.tuple #[.int .i64 5, .int .i64 1024]) ∧ w = w' := by
  have := draw_any 5 w
  rwa [show drawId 5 = 5 by kernel_rfl, show drawPort 5 = 1024 by kernel_rfl] at this
theorem fit13_any (w : World) (hG : Glob w) : Calls Tryd.prog 21 #[] w fun e w' => e = .returned (.bool true) ∧ Chg (fun _ => False) w w' := by
  have h0 : 0 < w.heap.size := World.block_lt_of_cell? w ⟨0, 0, none⟩ (hG 0 (u8v 0) rfl)
  refine calls_cw (args := []) Tryd.func21 rfl rfl ?_
  show CW _ _ _ 38 [] w
  refine CW.rseq ?_
  refine WL.op (by decide) (R.assign rfl) ?_
  refine WL.next ?_
  refine CW.rseq ?_
  refine WL.eff rfl (OP.call (by decide) Tryd.func26 (by kernel_rfl) (by kernel_rfl) rfl (draw5 w) ?_)
  rintro ed _ ⟨rfl, rfl⟩
  refine ⟨_, rfl, ?_⟩
  refine WL.op (by decide) (R.move rfl) ?_
  refine WL.op (by decide) (R.extract rfl rfl) ?_
  refine WL.op (by decide) (R.extract rfl rfl) ?_
  refine WL.op (by decide) (R.assign rfl) ?_
  refine WL.op (by decide) (R.assign rfl) ?_
  refine WL.next ?_
  refine CW.rseq ?_
  refine WL.op (by decide) (R.build (parts := [(0, _), (1, _)]) (vals := [(0, _), (1, _)]) rfl (fun w => build25_2 [97] 1 w)) ?_
  refine WL.op (by decide) (R.move rfl) ?_
  refine WL.op (by decide) (R.move rfl) ?_
  refine WL.op (by decide) (R.build (parts := [(0, _), (4, _), (5, _)]) (vals := [(0, _), (4, _), (5, _)]) rfl (fun w => build29_3 [97] 1 5 1024 w)) ?_
  refine WL.eff rfl (OP.alloc1 (.agg (Tr.cells ⟨[], 0, 0, 0, zero16, 0, 0, false, false, 0⟩).toArray) (by decide) (by kernel_rfl) ?_)
  intro w1 hc1 hs1 hT
  have hG := hG.kept hc1 (fun e => e)
  refine WL.eff rfl (OP.storeAgg inf29.choose_spec.1 (by rw [inf29.choose_spec.2]; rfl) rfl rfl (Tr.allOne _) hT rfl ?_)
  intro w2 hc2 hs2 hT
  have hG := hG.kept hc2 (by omega)
  have hC : Chg (fun _ => False) w w2 := hc1.then hc2 (fun k hk e => by omega)
  refine WL.next ?_
  refine CW.seq ?_
  refine CW.draw (fun w0 => w0.heap[w.heap.size]? = some (.cells (Tr.cells ⟨[97], 1, 0, 0, zero16, 5, 1024, false, false, 0⟩).toArray 29 (0, 0))) (by kernel_rfl) ?_
  have hG := hG.kept (Chg.drew (fun _ => False) _) (fun e => e)
  have hC := hC.trans (Chg.drew _ _)
  have hgt : w2.heap.size ≤ (World.drew w2).heap.size := Nat.le_refl _
  refine AH.take 0 rfl (by kernel_rfl) (by kernel_rfl) (by kernel_rfl) (fun _ _ _ _ h => h) hT (by decide) (fun w hS => R.loadAgg1 (cs := Tr.cells ⟨[97], 1, 0, 0, zero16, 5, 1024, false, false, 0⟩) Tryd.underlying29 rfl sz29 rfl (fun j u hj => cell_at hS (by rw [Nat.zero_add, List.getElem?_toArray]; exact hj))) ?_
  refine AH.take 1 rfl (by kernel_rfl) (by kernel_rfl) (by kernel_rfl) (fun _ _ _ _ h => h) hT (by decide) (fun w hS => R.build (parts := []) (vals := []) rfl build27_run) ?_
  refine AH.take 2 rfl (by kernel_rfl) (by kernel_rfl) (by kernel_rfl) (fun _ _ _ _ h => h) hT (by decide) (fun w hS => R.move rfl) ?_
  refine AH.take 3 rfl (by kernel_rfl) (by kernel_rfl) (by kernel_rfl) (fun _ _ _ _ h => h) hT (by decide) (fun w hS => FA29_0 rfl) ?_
  refine AH.take 4 rfl (by kernel_rfl) (by kernel_rfl) (by kernel_rfl) (fun _ _ _ _ h => h) hT (by decide) (fun w hS => R.loadAgg1 (cs := [sv [97], .int .i64 1]) Tryd.underlying25 rfl sz25 rfl (fun j u hj => cell_at hS (by match j, hj with | 0, hj => exact hj | 1, hj => exact hj))) ?_
  refine AH.take 5 rfl (by kernel_rfl) (by kernel_rfl) (by kernel_rfl) (fun _ _ _ _ h => h) hT (by decide) (fun w hS => R.build (parts := [(0, _), (1, _), (5, _)]) (vals := [(0, _), (1, _), (5, _)]) rfl (fun w => build33_015 5 true [97] 1 w)) ?_
  refine AH.either 6 11 (by kernel_rfl) rfl rfl rfl rfl ?_ ?_
  · skip
    refine (OP.call (by decide) Tryd.func24 (by kernel_rfl) (by kernel_rfl) rfl (encode_any ⟨5, true, false, false, 0, [97], 1, [], []⟩ _ _ ⟨_, _, rfl, RSl.nil _, RSl.nil _⟩ ⟨by decide, by decide, by simp, by decide⟩) ?_)
    rintro ed w3 ⟨v3, rfl, hB, hc3⟩
    have hT := hc3.at hT (fun e => e)
    refine ⟨_, rfl, hT, ?_⟩
    have hG := hG.kept hc3 (fun e => e)
    have hC := hC.trans hc3
    have hgt := Nat.le_trans hgt hc3.size
    try (have hB5 := hc3.at hB5 (fun e => e))
    obtain ⟨bs0, hbs0⟩ : ∃ b, b = enc ⟨5, true, false, false, 0, [97], 1, [], []⟩ := ⟨_, rfl⟩
    rw [← hbs0] at hB
    have hrt := rt5
    have hln := congrArg List.length enc5
    rw [← hbs0] at hrt hln
    clear hbs0
    obtain ⟨g, cap, rfl, _, hgl, hle, hcell⟩ := hB.open (by intro h; rw [h] at hln; cases hln)
    have hS0 := hB.src hle hcell
    refine AH.either 7 11 (by kernel_rfl) rfl rfl rfl rfl ?_ ?_
    · skip
      refine (OP.call (by decide) Tryd.func23 (by kernel_rfl) (by kernel_rfl) rfl (match_any ⟨[97], 1, 0, 0, zero16, 5, 1024, false, false, 0⟩ 0 0 zero16 1024 _ _ _ bs0 _ rfl rfl hS0 (fun g o h => by injection h with h; injection h with h; omega) (by rw [hln]; decide) hG) ?_)
      rintro ed w4 ⟨hc4, hres⟩
      rw [hrt] at hres
      have hT := hc4.at hT (fun e => e)
      obtain ⟨v4, rfl, va, vb, rfl, hva, hvb, _⟩ := match_yes (by rfl) (by rfl) hres
      refine ⟨_, rfl, hT, ?_⟩
      have hC := hC.trans hc4
      have hG := hG.kept hc4 (fun e => e)
      have hgt := Nat.le_trans hgt hc4.size
      try (have hB5 := hc4.at hB5 (fun e => e))
      obtain ⟨Aa, ca, rfl, _⟩ := hva.form
      obtain ⟨Ab, cb, rfl, _⟩ := hvb.form
      refine AH.take 8 rfl (by kernel_rfl) (by kernel_rfl) (by kernel_rfl) (fun _ _ _ _ h => h) hT (by decide) (fun w hS => R.move rfl) ?_
      refine AH.take 9 rfl (by kernel_rfl) (by kernel_rfl) (by kernel_rfl) (fun _ _ _ _ h => h) hT (by decide) (fun w hS => R.extract rfl rfl) ?_
      refine AH.take 10 rfl (by kernel_rfl) (by kernel_rfl) (by kernel_rfl) (fun _ _ _ _ h => h) hT (by decide) (fun w hS => R.extract rfl rfl) ?_
      refine AH.eff 11 (by kernel_rfl) rfl rfl (OP.alloc1 (.agg (Msg.cells ⟨0, false, false, false, 0, [], 0, [], []⟩ (.slice none 0 0) (.slice none 0 0)).toArray) (by decide) (by kernel_rfl) ?_)
      intro w5 hc5 hs5 hB5
      have hT := hc5.at hT (fun e => e)
      refine ⟨hT, ?_⟩
      have hC := hC.trans hc5
      have hG := hG.kept hc5 (fun e => e)
      have hgt5 := hgt
      have hgt := Nat.le_trans hgt hc5.size
      try (have hS0 := hS0.kept hc5 (fun _ _ _ e => e))
      try (have hgl := Nat.lt_of_lt_of_le hgl hc5.size)
      refine AH.eff 12 (by kernel_rfl) rfl rfl (OP.storeAgg inf33.choose_spec.1 (by rw [inf33.choose_spec.2]; rfl) rfl rfl (m_all _ _ _ _ _ _ _) hB5 rfl ?_)
      intro w6 hc6 hs6 hB6
      have hT := hc6.at hT (fun e => by omega)
      refine ⟨hT, ?_⟩
      have hC := hC.then hc6 (fun k hk e => by omega)
      refine AH.take 13 rfl (by kernel_rfl) (by kernel_rfl) (by kernel_rfl) (fun _ _ _ _ h => h) hT (by decide) (fun w hS => R.assign rfl) ?_
      refine AH.done (by kernel_rfl) ?_
      refine EW.next ?_
      refine CW.rseq ?_
      refine WL.op (by decide) (R.move rfl) ?_
      refine WL.op (by decide) (R.eql rfl rfl (decide_eq_true (by decide))) ?_
      refine WL.op (by decide) (R.move rfl) ?_
      refine WL.gop (by decide) rfl rfl rfl (R.move rfl) ?_
      refine WL.gop (by decide) rfl rfl rfl (R.eql rfl rfl (decide_eq_true (by decide))) ?_
      refine WL.op (by decide) (R.pickT rfl rfl) ?_
      refine WL.op (by decide) (R.move rfl) ?_
      refine WL.gop (by decide) rfl rfl rfl (R.move rfl) ?_
      refine WL.op (by decide) (R.pickT rfl rfl) ?_
      refine WL.op (by decide) (R.move rfl) ?_
      refine WL.geff rfl rfl rfl (OP.call (by decide) Tryd.func33 (by kernel_rfl) (by kernel_rfl) rfl (name_any 0 _) ?_)
      rintro ed w9 ⟨rfl, hc9⟩
      refine ⟨_, rfl, ?_⟩
      have hC := hC.trans hc9
      refine WL.gop (by decide) rfl rfl rfl (R.eqlStrC rfl rfl (decide_eq_true (by kernel_rfl))) ?_
      refine WL.op (by decide) (R.pickT rfl rfl) ?_
      refine WL.op (by decide) (R.assign rfl) ?_
      refine WL.next ?_
      refine CW.ret ?_
      exact EW.ret1 (.inl rfl) rfl rfl ⟨rfl, hC⟩
    · skip
      refine (OP.alloc1 (.agg (Msg.cells ⟨0, false, false, false, 0, [], 0, [], []⟩ (.slice none 0 0) (.slice none 0 0)).toArray) (by decide) (by kernel_rfl) ?_)
      intro w5 hc5 hs5 hB5
      have hT := hc5.at hT (fun e => e)
      refine ⟨hT, ?_⟩
      have hC := hC.trans hc5
      have hG := hG.kept hc5 (fun e => e)
      have hgt5 := hgt
      have hgt := Nat.le_trans hgt hc5.size
      try (have hS0 := hS0.kept hc5 (fun _ _ _ e => e))
      try (have hgl := Nat.lt_of_lt_of_le hgl hc5.size)
      refine AH.eff 7 (by kernel_rfl) rfl rfl (OP.call (by decide) Tryd.func23 (by kernel_rfl) (by kernel_rfl) rfl (match_any ⟨[97], 1, 0, 0, zero16, 5, 1024, false, false, 0⟩ 0 0 zero16 1024 _ _ _ bs0 _ rfl rfl hS0 (fun g o h => by injection h with h; injection h with h; omega) (by rw [hln]; decide) hG) ?_)
      rintro ed w4 ⟨hc4, hres⟩
      rw [hrt] at hres
      have hT := hc4.at hT (fun e => e)
      obtain ⟨v4, rfl, va, vb, rfl, hva, hvb, _⟩ := match_yes (by rfl) (by rfl) hres
      refine ⟨_, rfl, hT, ?_⟩
      have hC := hC.trans hc4
      have hG := hG.kept hc4 (fun e => e)
      have hgt := Nat.le_trans hgt hc4.size
      try (have hB5 := hc4.at hB5 (fun e => e))
      obtain ⟨Aa, ca, rfl, _⟩ := hva.form
      obtain ⟨Ab, cb, rfl, _⟩ := hvb.form
      refine AH.take 8 rfl (by kernel_rfl) (by kernel_rfl) (by kernel_rfl) (fun _ _ _ _ h => h) hT (by decide) (fun w hS => R.move rfl) ?_
      refine AH.take 9 rfl (by kernel_rfl) (by kernel_rfl) (by kernel_rfl) (fun _ _ _ _ h => h) hT (by decide) (fun w hS => R.extract rfl rfl) ?_
      refine AH.take 10 rfl (by kernel_rfl) (by kernel_rfl) (by kernel_rfl) (fun _ _ _ _ h => h) hT (by decide) (fun w hS => R.extract rfl rfl) ?_
      refine AH.eff 12 (by kernel_rfl) rfl rfl (OP.storeAgg inf33.choose_spec.1 (by rw [inf33.choose_spec.2]; rfl) rfl rfl (m_all _ _ _ _ _ _ _) hB5 rfl ?_)
      intro w6 hc6 hs6 hB6
      have hT := hc6.at hT (fun e => by omega)
      refine ⟨hT, ?_⟩
      have hC := hC.then hc6 (fun k hk e => by omega)
      refine AH.take 13 rfl (by kernel_rfl) (by kernel_rfl) (by kernel_rfl) (fun _ _ _ _ h => h) hT (by decide) (fun w hS => R.assign rfl) ?_
      refine AH.done (by kernel_rfl) ?_
      refine EW.next ?_
      refine CW.rseq ?_
      refine WL.op (by decide) (R.move rfl) ?_
      refine WL.op (by decide) (R.eql rfl rfl (decide_eq_true (by decide))) ?_
      refine WL.op (by decide) (R.move rfl) ?_
      refine WL.gop (by decide) rfl rfl rfl (R.move rfl) ?_
      refine WL.gop (by decide) rfl rfl rfl (R.eql rfl rfl (decide_eq_true (by decide))) ?_
      refine WL.op (by decide) (R.pickT rfl rfl) ?_
      refine WL.op (by decide) (R.move rfl) ?_
      refine WL.gop (by decide) rfl rfl rfl (R.move rfl) ?_
      refine WL.op (by decide) (R.pickT rfl rfl) ?_
      refine WL.op (by decide) (R.move rfl) ?_
      refine WL.geff rfl rfl rfl (OP.call (by decide) Tryd.func33 (by kernel_rfl) (by kernel_rfl) rfl (name_any 0 _) ?_)
      rintro ed w9 ⟨rfl, hc9⟩
      refine ⟨_, rfl, ?_⟩
      have hC := hC.trans hc9
      refine WL.gop (by decide) rfl rfl rfl (R.eqlStrC rfl rfl (decide_eq_true (by kernel_rfl))) ?_
      refine WL.op (by decide) (R.pickT rfl rfl) ?_
      refine WL.op (by decide) (R.assign rfl) ?_
      refine WL.next ?_
      refine CW.ret ?_
      exact EW.ret1 (.inl rfl) rfl rfl ⟨rfl, hC⟩
  · skip
    refine (OP.alloc1 (.agg (Msg.cells ⟨0, false, false, false, 0, [], 0, [], []⟩ (.slice none 0 0) (.slice none 0 0)).toArray) (by decide) (by kernel_rfl) ?_)
    intro w5 hc5 hs5 hB5
    have hT := hc5.at hT (fun e => e)
    refine ⟨hT, ?_⟩
    have hC := hC.trans hc5
    have hG := hG.kept hc5 (fun e => e)
    have hgt5 := hgt
    have hgt := Nat.le_trans hgt hc5.size
    try (have hS0 := hS0.kept hc5 (fun _ _ _ e => e))
    try (have hgl := Nat.lt_of_lt_of_le hgl hc5.size)
    refine AH.eff 6 (by kernel_rfl) rfl rfl (OP.call (by decide) Tryd.func24 (by kernel_rfl) (by kernel_rfl) rfl (encode_any ⟨5, true, false, false, 0, [97], 1, [], []⟩ _ _ ⟨_, _, rfl, RSl.nil _, RSl.nil _⟩ ⟨by decide, by decide, by simp, by decide⟩) ?_)
    rintro ed w3 ⟨v3, rfl, hB, hc3⟩
    have hT := hc3.at hT (fun e => e)
    refine ⟨_, rfl, hT, ?_⟩
    have hG := hG.kept hc3 (fun e => e)
    have hC := hC.trans hc3
    have hgt := Nat.le_trans hgt hc3.size
    try (have hB5 := hc3.at hB5 (fun e => e))
    obtain ⟨bs0, hbs0⟩ : ∃ b, b = enc ⟨5, true, false, false, 0, [97], 1, [], []⟩ := ⟨_, rfl⟩
    rw [← hbs0] at hB
    have hrt := rt5
    have hln := congrArg List.length enc5
    rw [← hbs0] at hrt hln
    clear hbs0
    obtain ⟨g, cap, rfl, _, hgl, hle, hcell⟩ := hB.open (by intro h; rw [h] at hln; cases hln)
    have hS0 := hB.src hle hcell
    refine AH.eff 7 (by kernel_rfl) rfl rfl (OP.call (by decide) Tryd.func23 (by kernel_rfl) (by kernel_rfl) rfl (match_any ⟨[97], 1, 0, 0, zero16, 5, 1024, false, false, 0⟩ 0 0 zero16 1024 _ _ _ bs0 _ rfl rfl hS0 (fun g o h => by injection h with h; injection h with h; omega) (by rw [hln]; decide) hG) ?_)
    rintro ed w4 ⟨hc4, hres⟩
    rw [hrt] at hres
    have hT := hc4.at hT (fun e => e)
    obtain ⟨v4, rfl, va, vb, rfl, hva, hvb, _⟩ := match_yes (by rfl) (by rfl) hres
    refine ⟨_, rfl, hT, ?_⟩
    have hC := hC.trans hc4
    have hG := hG.kept hc4 (fun e => e)
    have hgt := Nat.le_trans hgt hc4.size
    try (have hB5 := hc4.at hB5 (fun e => e))
    obtain ⟨Aa, ca, rfl, _⟩ := hva.form
    obtain ⟨Ab, cb, rfl, _⟩ := hvb.form
    refine AH.take 8 rfl (by kernel_rfl) (by kernel_rfl) (by kernel_rfl) (fun _ _ _ _ h => h) hT (by decide) (fun w hS => R.move rfl) ?_
    refine AH.take 9 rfl (by kernel_rfl) (by kernel_rfl) (by kernel_rfl) (fun _ _ _ _ h => h) hT (by decide) (fun w hS => R.extract rfl rfl) ?_
    refine AH.take 10 rfl (by kernel_rfl) (by kernel_rfl) (by kernel_rfl) (fun _ _ _ _ h => h) hT (by decide) (fun w hS => R.extract rfl rfl) ?_
    refine AH.eff 12 (by kernel_rfl) rfl rfl (OP.storeAgg inf33.choose_spec.1 (by rw [inf33.choose_spec.2]; rfl) rfl rfl (m_all _ _ _ _ _ _ _) hB5 rfl ?_)
    intro w6 hc6 hs6 hB6
    have hT := hc6.at hT (fun e => by omega)
    refine ⟨hT, ?_⟩
    have hC := hC.then hc6 (fun k hk e => by omega)
    refine AH.take 13 rfl (by kernel_rfl) (by kernel_rfl) (by kernel_rfl) (fun _ _ _ _ h => h) hT (by decide) (fun w hS => R.assign rfl) ?_
    refine AH.done (by kernel_rfl) ?_
    refine EW.next ?_
    refine CW.rseq ?_
    refine WL.op (by decide) (R.move rfl) ?_
    refine WL.op (by decide) (R.eql rfl rfl (decide_eq_true (by decide))) ?_
    refine WL.op (by decide) (R.move rfl) ?_
    refine WL.gop (by decide) rfl rfl rfl (R.move rfl) ?_
    refine WL.gop (by decide) rfl rfl rfl (R.eql rfl rfl (decide_eq_true (by decide))) ?_
    refine WL.op (by decide) (R.pickT rfl rfl) ?_
    refine WL.op (by decide) (R.move rfl) ?_
    refine WL.gop (by decide) rfl rfl rfl (R.move rfl) ?_
    refine WL.op (by decide) (R.pickT rfl rfl) ?_
    refine WL.op (by decide) (R.move rfl) ?_
    refine WL.geff rfl rfl rfl (OP.call (by decide) Tryd.func33 (by kernel_rfl) (by kernel_rfl) rfl (name_any 0 _) ?_)
    rintro ed w9 ⟨rfl, hc9⟩
    refine ⟨_, rfl, ?_⟩
    have hC := hC.trans hc9
    refine WL.gop (by decide) rfl rfl rfl (R.eqlStrC rfl rfl (decide_eq_true (by kernel_rfl))) ?_
    refine WL.op (by decide) (R.pickT rfl rfl) ?_
    refine WL.op (by decide) (R.assign rfl) ?_
    refine WL.next ?_
    refine CW.ret ?_
    exact EW.ret1 (.inl rfl) rfl rfl ⟨rfl, hC⟩
theorem shm (n : Int) : n / 2 ^ (16 : Int).toNat % 64512 < 64512 ∧ 0 ≤ n / 2 ^ (16 : Int).toNat % 64512 := by omega
theorem shn (n : Int) (h : ¬ n < 0) : 0 ≤ n / 2 ^ (16 : Int).toNat := by
  have h0 : (2 : Int) ^ (16 : Int).toNat = 65536 := rfl
  rw [h0]; omega
theorem drawPort_eq {n : Int} (h1 : ¬ n < 0) (h2 : ¬ n ≥ 1073741824) : drawPort n = 1024 + n / 2 ^ (16 : Int).toNat % 64512 := by
  unfold drawPort
  rw [show n % 18446744073709551616 = n from Int.emod_eq_of_lt (by omega) (by omega)]
theorem transDraws_any (n : Int) (w : World) (hG : Glob w) : Calls Tryd.prog 4 #[.int .i64 n] w fun e w' => e = .returned (.bool true) ∧ Chg (fun _ => False) w w' := by
  refine calls_cw (args := [.int .i64 n]) Tryd.func4 rfl rfl ?_
  show CW _ _ _ 48 [(0, .int .i64 n)] w
  refine CW.rseq ?_
  refine WL.op (by decide) (R.assign rfl) ?_
  refine WL.next ?_
  refine CW.seq ?_
  refine CW.rseq ?_
  refine WL.eff rfl (OP.call (args := []) (by decide) Tryd.func21 (by kernel_rfl) (by kernel_rfl) rfl (fit13_any w hG) ?_)
  rintro ed w1 ⟨rfl, hC⟩
  refine ⟨_, rfl, ?_⟩
  refine WL.op (by decide) (R.not rfl) ?_
  refine WL.next ?_
  refine CW.condF rfl ?_
  refine CW.skip ?_
  refine EW.next ?_
  refine CW.rseq ?_
  refine WL.op (by decide) (R.move rfl) ?_
  refine WL.eff rfl (OP.call (by decide) Tryd.func26 (by kernel_rfl) (by kernel_rfl) rfl (draw_any n w1) ?_)
  rintro ed _ ⟨rfl, rfl⟩
  refine ⟨_, rfl, ?_⟩
  refine WL.op (by decide) (R.move rfl) ?_
  refine WL.op (by decide) (R.extract rfl rfl) ?_
  refine WL.op (by decide) (R.extract rfl rfl) ?_
  refine WL.op (by decide) (R.assign rfl) ?_
  refine WL.op (by decide) (R.assign rfl) ?_
  refine WL.next ?_
  refine CW.rseq ?_
  refine WL.op (by decide) (R.move rfl) ?_
  refine WL.op (by decide) (R.geq rfl rfl (decide_eq_true (by unfold drawId; omega))) ?_
  refine WL.op (by decide) (R.move rfl) ?_
  refine WL.gop (by decide) rfl rfl rfl (R.move rfl) ?_
  refine WL.gop (by decide) rfl rfl rfl (R.leq rfl rfl (decide_eq_true (by unfold drawId; omega))) ?_
  refine WL.op (by decide) (R.pickT rfl rfl) ?_
  refine WL.op (by decide) (R.move rfl) ?_
  refine WL.gop (by decide) rfl rfl rfl (R.move rfl) ?_
  refine WL.gop (by decide) rfl rfl rfl (R.geq rfl rfl (decide_eq_true (by have := sh16m n; unfold drawPort; omega))) ?_
  refine WL.op (by decide) (R.pickT rfl rfl) ?_
  refine WL.op (by decide) (R.move rfl) ?_
  refine WL.gop (by decide) rfl rfl rfl (R.move rfl) ?_
  refine WL.gop (by decide) rfl rfl rfl (R.leq rfl rfl (decide_eq_true (by have := sh16m n; unfold drawPort; omega))) ?_
  refine WL.op (by decide) (R.pickT rfl rfl) ?_
  refine WL.op (by decide) (R.move rfl) ?_
  refine WL.gop (by decide) rfl rfl rfl (R.move rfl) ?_
  refine WL.gop (by decide) rfl rfl rfl (R.move rfl) ?_
  refine WL.gop (by decide) rfl rfl rfl (R.mask 16 rfl rfl (by decide) rfl rfl) ?_
  refine WL.gop (by decide) rfl rfl rfl (R.eql rfl rfl (decide_eq_true (rfl))) ?_
  refine WL.op (by decide) (R.pickT rfl rfl) ?_
  refine WL.op (by decide) (R.move rfl) ?_
  refine WL.gop (by decide) rfl rfl rfl (R.move rfl) ?_
  refine WL.gsplit _ (by decide) rfl rfl rfl (R.lssD rfl rfl) (fun h1 => ?_) (fun h1 => ?_)
  · skip
    refine WL.gop (by decide) rfl rfl rfl (R.move rfl) ?_
    refine WL.pass (by decide) rfl rfl rfl ?_
    refine WL.pass (by decide) rfl rfl rfl ?_
    refine WL.gop (by decide) rfl rfl rfl (R.pickT rfl rfl) ?_
    refine WL.gop (by decide) rfl rfl rfl (R.move rfl) ?_
    refine WL.pass (by decide) rfl rfl rfl ?_
    refine WL.pass (by decide) rfl rfl rfl ?_
    refine WL.pass (by decide) rfl rfl rfl ?_
    refine WL.pass (by decide) rfl rfl rfl ?_
    refine WL.pass (by decide) rfl rfl rfl ?_
    refine WL.pass (by decide) rfl rfl rfl ?_
    refine WL.gop (by decide) rfl rfl rfl (R.pickT rfl rfl) ?_
    refine WL.op (by decide) (R.pickT rfl rfl) ?_
    refine WL.op (by decide) (R.assign rfl) ?_
    refine WL.next ?_
    refine CW.ret ?_
    exact EW.ret1 (.inl rfl) rfl rfl ⟨rfl, hC⟩
  · skip
    refine WL.gop (by decide) rfl rfl rfl (R.move rfl) ?_
    refine WL.gop (by decide) rfl rfl rfl (R.move rfl) ?_
    refine WL.gsplit _ (by decide) rfl rfl rfl (R.geqD rfl rfl) (fun h2 => ?_) (fun h2 => ?_)
    · skip
      refine WL.gop (by decide) rfl rfl rfl (R.pickF rfl rfl) ?_
      refine WL.gop (by decide) rfl rfl rfl (R.move rfl) ?_
      refine WL.pass (by decide) rfl rfl rfl ?_
      refine WL.pass (by decide) rfl rfl rfl ?_
      refine WL.pass (by decide) rfl rfl rfl ?_
      refine WL.pass (by decide) rfl rfl rfl ?_
      refine WL.pass (by decide) rfl rfl rfl ?_
      refine WL.pass (by decide) rfl rfl rfl ?_
      refine WL.gop (by decide) rfl rfl rfl (R.pickT rfl rfl) ?_
      refine WL.op (by decide) (R.pickT rfl rfl) ?_
      refine WL.op (by decide) (R.assign rfl) ?_
      refine WL.next ?_
      refine CW.ret ?_
      exact EW.ret1 (.inl rfl) rfl rfl ⟨rfl, hC⟩
    · skip
      refine WL.gop (by decide) rfl rfl rfl (R.pickF rfl rfl) ?_
      refine WL.gop (by decide) rfl rfl rfl (R.move rfl) ?_
      refine WL.gop (by decide) rfl rfl rfl (R.move rfl) ?_
      refine WL.gop (by decide) rfl rfl rfl (R.move rfl) ?_
      refine WL.gop (by decide) rfl rfl rfl (R.shr rfl rfl (by omega)) ?_
      refine WL.gop (by decide) rfl rfl rfl (R.remN rfl rfl (by decide) (shn n (by omega))) ?_
      refine WL.gop (by decide) rfl rfl rfl (R.add rfl rfl (by have := shm n; omega)) ?_
      refine WL.gop (by decide) rfl rfl rfl (R.eql rfl rfl (decide_eq_true (drawPort_eq (by omega) (by omega)))) ?_
      refine WL.gop (by decide) rfl rfl rfl (R.pickF rfl rfl) ?_
      refine WL.op (by decide) (R.pickT rfl rfl) ?_
      refine WL.op (by decide) (R.assign rfl) ?_
      refine WL.next ?_
      refine CW.ret ?_
      exact EW.ret1 (.inl rfl) rfl rfl ⟨rfl, hC⟩
end Go.Proofs.YthcpjcgjmdfpjaaDoor

namespace Go.Proofs.YthcpjcgjmdfpjaaDoor
open Go Go.RowKit
set_option maxRecDepth 100000
set_option maxHeartbeats 4000000

def addrN (b : UInt8) : List UInt8 := [0, 0, 0, 0, 0, 0, 0, 0, 0, 0, 0, 0, 0, 0, 0, b]
def buildT (n : Int) (group : Bool) : Tr := ⟨nameN n, 1 + n / 2 ^ (3 : Int).toNat % 2, n % 4, n / 2 ^ (2 : Int).toNat % 4, addrN (byteOf n), drawId n, drawPort n, false, group, 0⟩
theorem build27_15 (b : UInt8) (w : World) : (Instr.build 27 #[(15, u8v b)]).run Tryd.prog w = .ok (.agg ((addrN b).map u8v).toArray) w := by kernel_rfl
theorem build29_7 (s : List UInt8) (ty link gen : Int) (b : UInt8) (id port : Int) (g : Bool) (w : World) : (Instr.build 29 #[(0, .agg #[sv s, .int .i64 ty]), (1, .int .i64 link), (2, .int .i64 gen), (3, .agg ((addrN b).map u8v).toArray), (4, .int .i64 id), (5, .int .i64 port), (7, .bool g)]).run Tryd.prog w = .ok (Tr.val ⟨s, ty, link, gen, addrN b, id, port, false, g, 0⟩) w := by unfold sv; kernel_rfl
theorem build_any (n : Int) (group : Bool) (w : World) : Calls Tryd.prog 22 #[.int .i64 n, .bool group] w fun e w' => e = .returned (buildT n group).val ∧ Chg (fun _ => False) w w' := by
  refine calls_cw (args := [.int .i64 n, .bool group]) Tryd.func22 rfl rfl ?_
  show CW _ _ _ 31 [(0, .int .i64 n), (1, .bool group)] w
  refine CW.rseq ?_
  refine WL.eff rfl (OP.alloc1 (.agg (Tr.cells ⟨[], 0, 0, 0, zero16, 0, 0, false, false, 0⟩).toArray) (by decide) (by kernel_rfl) ?_)
  intro w1 hc1 hs1 hT
  refine WL.next ?_
  refine CW.rseq ?_
  refine WL.op (by decide) (R.move rfl) ?_
  refine WL.eff rfl (OP.call (by decide) Tryd.func26 (by kernel_rfl) (by kernel_rfl) rfl (draw_any n w1) ?_)
  rintro ed _ ⟨rfl, rfl⟩
  refine ⟨_, rfl, ?_⟩
  refine WL.op (by decide) (R.move rfl) ?_
  refine WL.op (by decide) (R.extract rfl rfl) ?_
  refine WL.op (by decide) (R.extract rfl rfl) ?_
  refine WL.op (by decide) (R.assign rfl) ?_
  refine WL.op (by decide) (R.assign rfl) ?_
  refine WL.next ?_
  refine CW.rseq ?_
  refine WL.op (by decide) (R.move rfl) ?_
  refine WL.eff rfl (OP.call (by decide) Tryd.func33 (by kernel_rfl) (by kernel_rfl) rfl (name_any n w1) ?_)
  rintro ed w2 ⟨rfl, hc2⟩
  refine ⟨_, rfl, ?_⟩
  have hT := hc2.at hT (fun e => e)
  have hC := hc1.trans hc2
  refine WL.op (by decide) (R.move rfl) ?_
  refine WL.op (by decide) (R.shr rfl rfl (by omega)) ?_
  refine WL.op (by decide) (R.mask 1 rfl rfl (by decide) rfl rfl) ?_
  refine WL.op (by decide) (R.add rfl rfl (by omega)) ?_
  refine WL.op (by decide) (R.build (parts := [(0, _), (1, _)]) (vals := [(0, _), (1, _)]) rfl (fun w => build25_2 (nameN n) _ w)) ?_
  refine WL.op (by decide) (R.move rfl) ?_
  refine WL.op (by decide) (R.mask 2 rfl rfl (by decide) rfl rfl) ?_
  refine WL.op (by decide) (R.move rfl) ?_
  refine WL.op (by decide) (R.shr rfl rfl (by omega)) ?_
  refine WL.op (by decide) (R.mask 2 rfl rfl (by decide) rfl rfl) ?_
  refine WL.op (by decide) (R.move rfl) ?_
  refine WL.op (by decide) (R.conv35 rfl) ?_
  refine WL.op (by decide) (R.build (parts := [(15, _)]) (vals := [(15, _)]) rfl (fun w => build27_15 (byteOf n) w)) ?_
  refine WL.op (by decide) (R.move rfl) ?_
  refine WL.op (by decide) (R.move rfl) ?_
  refine WL.op (by decide) (R.move rfl) ?_
  refine WL.op (by decide) (R.build (parts := [(0, _), (1, _), (2, _), (3, _), (4, _), (5, _), (7, _)]) (vals := [(0, _), (1, _), (2, _), (3, _), (4, _), (5, _), (7, _)]) rfl (fun w => build29_7 (nameN n) _ _ _ (byteOf n) _ _ group w)) ?_
  refine WL.eff rfl (OP.storeAgg inf29.choose_spec.1 (by rw [inf29.choose_spec.2]; rfl) rfl rfl (Tr.allOne _) hT rfl ?_)
  intro w3 hc3 hs3 hT
  have hC := hC.then hc3 (fun k hk e => by omega)
  refine WL.next ?_
  refine CW.ret ?_
  exact EW.retC (.inl rfl) rfl rfl (cs := Tr.cells (buildT n group)) Tryd.underlying29 rfl sz29 (fun j u hj => cell_at hT (by rw [List.getElem?_toArray]; exact hj)) ⟨rfl, hC⟩
end Go.Proofs.YthcpjcgjmdfpjaaDoor

namespace Go.Proofs.YthcpjcgjmdfpjaaDoor
open Go Go.RowKit
set_option maxRecDepth 100000

/-- What a question of a number is. -/
structure TOk (T : Tr) (n : Int) (g : Bool) : Prop where
  id : 0 ≤ T.id ∧ T.id ≤ 65535
  ty : 1 ≤ T.qtype ∧ T.qtype ≤ 2
  nm : namesL T.qname = true
  sp : (splitL T.qname).length ≤ 16
  group : T.group = g
  stream : T.stream = false
  to : T.to = addrN (byteOf n)
  link : 0 ≤ T.link ∧ T.link ≤ 3
  gen : 0 ≤ T.gen ∧ T.gen ≤ 3
  port : 1024 ≤ T.port ∧ T.port ≤ 65535
theorem buildT_ok (n : Int) (g : Bool) : TOk (buildT n g) n g := by
  refine ⟨?_, ?_, (nameN_ok n).1, (nameN_ok n).2.1, rfl, rfl, rfl, ?_, ?_, ?_⟩
  · show 0 ≤ n % 65536 ∧ n % 65536 ≤ 65535; omega
  · show 1 ≤ 1 + n / 2 ^ (3 : Int).toNat % 2 ∧ 1 + n / 2 ^ (3 : Int).toNat % 2 ≤ 2; omega
  · show 0 ≤ n % 4 ∧ n % 4 ≤ 3; omega
  · show 0 ≤ n / 2 ^ (2 : Int).toNat % 4 ∧ n / 2 ^ (2 : Int).toNat % 4 ≤ 3; omega
  · have := sh16m n
    show 1024 ≤ 1024 + n % 18446744073709551616 / 2 ^ (16 : Int).toNat % 64512 ∧ 1024 + n % 18446744073709551616 / 2 ^ (16 : Int).toNat % 64512 ≤ 65535
    omega
theorem TOk.back {T : Tr} {n : Int} {g : Bool} (h : TOk T n g) (r tr rc : Bool) : MBack ⟨T.id, r, tr, rc, 0, T.qname, T.qtype, [], []⟩ :=
  MBack.quest h.id (by have := h.ty; omega) h.nm h.sp

/-! ### What Match answers -/
theorem match_two {t : Tr} {link gen : Int} {frm : List UInt8} {port : Int} {base : Nat} {M : Msg} {e : Ending} {w : World} (h : MatchRes t link gen frm port base (some M) e w) :
    (passT t link gen frm port = true ∧ ∃ va vb, e = .returned (.tuple #[.agg (M.cells va vb).toArray, .bool (ansT t M)]) ∧ RSl w va M.ans ∧ RSl w vb M.auth ∧ (∀ k, va.ownBlock = some k → base ≤ k) ∧ (∀ k, vb.ownBlock = some k → base ≤ k)) ∨
    (passT t link gen frm port = false ∧ e = .returned (.tuple #[zeroMV, .bool false])) := by
  unfold MatchRes at h
  simp only at h
  cases hp : passT t link gen frm port with
  | true =>
    rw [if_pos hp] at h
    obtain ⟨v, rfl, va, vb, rfl, h1, h2, h3, h4⟩ := h
    exact .inl ⟨rfl, va, vb, rfl, h1, h2, h3, h4⟩
  | false =>
    rw [if_neg (by rw [hp]; simp)] at h
    exact .inr ⟨rfl, h⟩
theorem pass_self (T : Tr) : passT T T.link T.gen T.to T.port = true := by simp [passT]
theorem ans_self {T : Tr} {M : Msg} (h1 : M.reply = true) (h2 : M.id = T.id) (h3 : M.qname = T.qname) (h4 : M.qtype = T.qtype) : ansT T M = true := by simp [ansT, h1, h2, h3, h4]

/-! ### Datagrams -/
def sendC (T : Tr) (v : Value) : List Value := .int .i64 T.link :: (T.to.map u8v ++ [.int .i64 T.port, .bool T.stream, v])
theorem sendC_len {T : Tr} {v : Value} (h : T.to.length = 16) : (sendC T v).length = 20 := by simp [sendC, h]
theorem sendC_tail {T : Tr} {v : Value} (h : T.to.length = 16) (j : Nat) {u : Value} (hj : ([.int .i64 T.port, .bool T.stream, v] : List Value)[j]? = some u) : (sendC T v).toArray[17 + j]? = some u := by
  rw [List.getElem?_toArray, Nat.add_comm]
  show (T.to.map u8v ++ _)[j + 16]? = _
  rw [List.getElem?_append_right (by simp [h])]
  simp [h, hj]
theorem Send.at17 {T : Tr} {v : Value} (h : T.to.length = 16) : (sendC T v).toArray[17]? = some (.int .i64 T.port) := sendC_tail h 0 rfl
theorem Send.at18 {T : Tr} {v : Value} (h : T.to.length = 16) : (sendC T v).toArray[18]? = some (.bool T.stream) := sendC_tail h 1 rfl
theorem Send.at19 {T : Tr} {v : Value} (h : T.to.length = 16) : (sendC T v).toArray[19]? = some v := sendC_tail h 2 rfl
theorem Send.atTo {T : Tr} {v : Value} {j : Nat} {u : Value} (hj : (T.to.map u8v)[j]? = some u) : (sendC T v).toArray[1 + j]? = some u := by
  have hlt := (List.getElem?_eq_some_iff.1 hj).1
  rw [Nat.add_comm, List.getElem?_toArray]
  show (T.to.map u8v ++ _)[j]? = _
  rw [List.getElem?_append_left hlt]; exact hj
theorem sendC_all (T : Tr) (A : Option Addr) (m c : Nat) : (sendC T (.slice A m c)).toArray.all (·.oneCell') = true := by
  rw [Array.all_eq_true_iff_forall_mem]
  intro u hu
  simp only [sendC, List.mem_toArray, List.mem_cons, List.mem_append, List.mem_map, List.not_mem_nil, or_false] at hu
  rcases hu with rfl | ⟨c, _, rfl⟩ | rfl | rfl | rfl <;> rfl
abbrev BD (w : World) (b : Nat) (T : Tr) (v : Value) : Prop := w.heap[b]? = some (.cells (sendC T v).toArray 60 (0, 0))
section
variable {l : Env} {n d : Nat} {w : World} {Q : Exit → Act → World → Prop} {M : Env → World → Prop} {t ty : TypeId} {pos : String} {af : Array Edge} {x y : Operand} {b o : Nat}
theorem OP.allocD (hdn : d < n) (h : ∀ w', Chg (fun _ => False) w w' → w'.heap.size = w.heap.size + 1 → BD w' w.heap.size tr0 (.slice none 0 0) → M ((d, .pointer (some ⟨w.heap.size, 0, none⟩)) :: l) w') :
    OP Tryd.prog Q ⟨some d, .alloc 60, t, pos, af, none⟩ n l w M :=
  OP.alloc1 (.agg (sendC tr0 (.slice none 0 0)).toArray) hdn (by kernel_rfl) h
theorem OP.storeD {T T0 : Tr} {A : Option Addr} {m c : Nat} {v0 : Value} (h16 : T.to.length = 16) (h160 : T0.to.length = 16) (hx : ev l x = some (.pointer (some ⟨b, 0, none⟩))) (hy : ev l y = some (.agg (sendC T (.slice A m c)).toArray)) (hb : BD w b T0 v0)
    (h : ∀ w', Chg (fun k => k = b) w w' → w'.heap.size = w.heap.size → BD w' b T (.slice A m c) → M l w') :
    OP Tryd.prog Q ⟨none, .store 60 x y, ty, pos, af, none⟩ n l w M := by
  obtain ⟨i, hi, hz⟩ := inf_of sz60
  exact OP.storeAgg hi (by rw [hz, List.size_toArray, sendC_len h16]) hx hy (sendC_all _ _ _ _) hb (by rw [List.size_toArray, List.size_toArray, sendC_len h16, sendC_len h160]) h
theorem R.loadDTo {T : Tr} {v : Value} (h16 : T.to.length = 16) (hx : ev l x = some (.pointer (some ⟨b, 1, none⟩))) (hb : BD w b T v) : Runs Tryd.prog l (.load 27 x) w (.agg (T.to.map u8v).toArray) w :=
  R.loadAgg1 (cs := T.to.map u8v) Tryd.underlying27 rfl (by rw [List.length_map, h16]; exact sz27) hx (fun j u hj => cell_at hb (Send.atTo hj))
end
theorem build60 {T : Tr} (h : T.to.length = 16) (A : Option Addr) (m c : Nat) (w : World) : (Instr.build 60 #[(0, .int .i64 T.link), (1, .agg (T.to.map u8v).toArray), (2, .int .i64 T.port), (3, .bool T.stream), (4, .slice A m c)]).run Tryd.prog w = .ok (.agg (sendC T (.slice A m c)).toArray) w := by
  obtain ⟨q, ty, lk, gn, to, i, p, st, g, u⟩ := T
  obtain ⟨a0, a1, a2, a3, a4, a5, a6, a7, a8, a9, b0, b1, b2, b3, b4, b5, rfl⟩ := list16 h
  kernel_rfl
theorem build33_035 (id : Int) (r : Bool) (s : List UInt8) (t : Int) (w : World) : (Instr.build 33 #[(0, .int .i64 id), (3, .bool r), (5, .agg #[sv s, .int .i64 t])]).run Tryd.prog w = .ok (.agg (Msg.cells ⟨id, false, false, r, 0, s, t, [], []⟩ (.slice none 0 0) (.slice none 0 0)).toArray) w := by unfold sv; kernel_rfl
theorem R.eqlBT {l : Env} {w : World} {x y : Operand} {ty : TypeId} {a b : Bool} (hx : ev l x = some (.bool a)) (hy : ev l y = some (.bool b)) (h : a = b) : Runs Tryd.prog l (.binOp .eql 4 x y ty) w (.bool true) w := R.eqlB hx hy (by rw [h]; cases b <;> rfl)
end Go.Proofs.YthcpjcgjmdfpjaaDoor
