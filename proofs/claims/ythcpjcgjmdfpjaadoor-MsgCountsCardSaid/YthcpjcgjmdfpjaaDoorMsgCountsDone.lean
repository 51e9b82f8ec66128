/- MsgCounts: the statement MsgCounts is proved (its card); no conditions. Here: MsgCounts, MsgCountsCard. -/
import Derived.Test.YthcpjcgjmdfpjaaDoorWordsMsg
import Derived.Test.YthcpjcgjmdfpjaaDoorCoreB
import Derived.Test.YthcpjcgjmdfpjaaDoorCoreE
namespace Go.Proofs.YthcpjcgjmdfpjaaDoor
open Go Go.RowKit
set_option maxRecDepth 100000
set_option maxHeartbeats 4000000

theorem msgCounts_any (n : Int) (s : SeedV) (w0 : World) (_hs16 : s.addr.length = 16) (hG : Glob w0) : Calls Tryd.prog 9 #[.int .i64 n, .agg s.cells.toArray] w0 fun e w' => e = .returned (.bool true) ∧ Chg (fun _ => False) w0 w' := by
  have hC := Chg.refl (fun _ => False) w0
  obtain ⟨N, hN0⟩ : ∃ N : Nat, n % ((2 ^ 6 : Nat) : Int) = (N : Int) := ⟨(n % ((2 ^ 6 : Nat) : Int)).toNat, by omega⟩
  have hN64 : N < 64 := by omega
  refine calls_cw (args := [.int .i64 n, .agg s.cells.toArray]) Tryd.func9 rfl rfl ?_
  show CW _ _ _ 51 [(0, .int .i64 n), (1, .agg s.cells.toArray)] w0
  refine CW.rseq ?_
  refine WL.eff rfl (OP.box (by decide) rfl ?_)
  intro w1 hc_w1 hs_w1 hB3
  obtain ⟨b3, he_b3⟩ : ∃ b, b = w0.heap.size := ⟨_, rfl⟩
  rw [← he_b3] at hB3 ⊢
  have hB3 : BSd w1 b3 _ := hB3
  have hC := hC.trans hc_w1
  have hz_w1 := hc_w1.size
  refine WL.op (by decide) (R.assign rfl) ?_
  refine WL.next ?_
  refine CW.seq ?_
  refine CW.rseq ?_
  refine WL.eff rfl (OP.call (by decide) Tryd.func29 (by kernel_rfl) (by kernel_rfl) rfl (fit04_any _ (hG.keep0 hC)) ?_)
  rintro ed w2 ⟨rfl, hc_w2⟩
  refine ⟨_, rfl, ?_⟩
  have hB3 := hc_w2.at hB3 (fun e => e)
  have hC := hC.trans hc_w2
  have hz_w2 := hc_w2.size
  refine WL.op (by decide) (R.not rfl) ?_
  refine WL.next ?_
  refine CW.condF rfl ?_
  refine CW.skip ?_
  refine EW.next ?_
  refine CW.rseq ?_
  refine WL.op (by decide) (R.move rfl) ?_
  refine WL.op (by decide) (R.maskN 6 rfl rfl (by decide) rfl hN0) ?_
  refine WL.op (by decide) (R.assign rfl) ?_
  refine WL.next ?_
  refine CW.rseq ?_
  refine WL.op (by decide) (R.build (parts := [(0, _), (1, _)]) (vals := [(0, _), (1, _)]) rfl (fun w => build25_2 [97] 1 w)) ?_
  refine WL.op (by decide) (R.build (parts := [(5, _)]) (vals := [(5, _)]) rfl (fun w => build33_5 [97] 1 w)) ?_
  refine WL.eff rfl (OP.allocM (by decide) ?_)
  intro w3 hc_w3 hs_w3 hB5
  obtain ⟨b5, he_b5⟩ : ∃ b, b = w2.heap.size := ⟨_, rfl⟩
  rw [← he_b5] at hB5 ⊢
  have hB3 := hc_w3.at hB3 (fun e => e)
  have hC := hC.trans hc_w3
  have hz_w3 := hc_w3.size
  refine WL.eff rfl (OP.storeM rfl rfl hB5 ?_)
  intro w4 hc_w4 hs_w4 hB5
  have hB3 := hc_w4.at hB3 (fun e => by omega)
  have hC := hC.thenB hc_w4 (by omega)
  refine WL.next ?_
  refine CW.seq ?_
  refine CW.rseq ?_
  obtain ⟨base, he_base⟩ : ∃ b, b = w4.heap.size := ⟨_, rfl⟩
  refine WL.op (by decide) (R.move rfl) ?_
  refine WL.op (by decide) (R.move rfl) ?_
  refine WL.next ?_
  refine CW.block ?_
  refine CW.loopK [0, 5, 14, 15] (fun k le wr => Chg (fun _ => False) w0 wr ∧ base ≤ wr.heap.size ∧ ∃ (j : Nat) (jj : Int) (A1 : Option Addr) (c1 : Nat), j + k = N ∧ jj = (j : Int) ∧ le = [(0, .int .i64 N), (5, .pointer (some ⟨b5, 0, none⟩)), (14, .int .i64 N), (15, .int .i64 jj)] ∧ BM wr b5 (cntM N j) (.slice A1 j c1) (.slice none 0 0) ∧ RBuf wr base (.slice A1 j c1) (List.replicate j (cntR N))) (N) ?_ ?_
  · exact ⟨hC, by omega, 0, 0, none, 0, by omega, rfl, rfl, hB5, RBuf.nil _ _⟩
  · rintro k le wr ⟨hC, hbw, j, jj, A1, c1, hk, rfl, rfl, hB5, hRB⟩
    have hK : Chg (fun _ => False) wr wr := Chg.refl _ _
    have hz_hC := hC.size
    have hz_hK := hK.size
    refine CW.rseq ?_
    refine WL.lssS (by decide) rfl rfl (fun h1 => ?_) (fun h1 => ?_)
    · skip
      refine WL.next ?_
      refine CW.seq ?_
      refine CW.condT rfl ?_
      refine CW.skip ?_
      refine EW.next ?_
      refine CW.seq ?_
      refine CW.block ?_
      refine CW.region ?_
      refine WL.op (by decide) (FA33_6 rfl) ?_
      refine WL.op (by decide) (R.load Tryd.underlying31 rfl rfl (cell_at hB5 rfl)) ?_
      refine WL.op (by decide) (R.move rfl) ?_
      refine WL.op (by decide) (R.conv35 rfl) ?_
      refine WL.op (by decide) (R.build (parts := [(10, _), (11, _), (15, _)]) (vals := [(10, _), (11, _), (15, _)]) rfl (fun w => build27_v4 _ w)) ?_
      refine WL.op (by decide) (R.build (parts := [(0, _), (1, _), (3, _)]) (vals := [(0, _), (1, _), (3, _)]) rfl (fun w => build57_013 [97] 1 (a := mappedL ++ [0, 0, 0, byteOf (N : Int)]) rfl w)) ?_
      refine WL.eff rfl (OP.buildSliceR (by decide) rfl (cntR_16 N) ?_)
      intro w5 hc_w5 hs_w5 hN
      have hB5 := hc_w5.at hB5 (fun e => e)
      have hC := hC.trans hc_w5
      have hK := hK.trans hc_w5
      have hz_w5 := hc_w5.size
      refine WL.eff rfl (OP.appendR (by decide) rfl rfl (hRB.kept hK (fun _ _ e => e)) (cntR_16 N) hN (by simp; omega) (by omega) ?_)
      intro v2 w6 hRn hMv
      have hc_w6 : Chg (fun k => base ≤ k) w5 w6 := (Chg.moved hMv).mono (fun k _ e => (hRB.lt k e.symm).1)
      clear hMv
      obtain ⟨A1, c1, rfl⟩ := appended_rec (j := j) (by simp) hRn
      rw [← List.replicate_succ'] at hRn
      have hRB := hRn
      clear hRn
      have hB5 := hc_w6.at hB5 (fun e => by omega)
      have hC := hC.then hc_w6 (fun _ _ e => by omega)
      have hz_w6 := hc_w6.size
      refine WL.op (by decide) (FA33_6 rfl) ?_
      refine WL.eff rfl (OP.storeAns (rs := List.replicate (j + 1) (cntR N)) rfl rfl hB5 ?_)
      intro w7 hc_w7 hs_w7 hB5
      have hC := hC.thenB hc_w7 (by omega)
      have hRB := hRB.kept hc_w7 (fun k e1 e2 => by have := hRB.lt k e1; omega)
      refine WL.nil ?_
      refine EW.inNormal ?_
      refine EW.next ?_
      refine CW.region ?_
      refine WL.op (by decide) (R.add rfl rfl (by omega)) ?_
      refine WL.op (by decide) (R.move rfl) ?_
      refine WL.nil ?_
      exact EW.roundK [0, 5, 14, 15] (k - 1) (by omega) ⟨hC, by omega, j + 1, _, A1, c1, by omega, by omega, rfl, hB5, hRB⟩
    · skip
      refine WL.next ?_
      refine CW.seq ?_
      refine CW.condF rfl ?_
      refine CW.exit ?_
      obtain rfl : N = j := by omega
      have hRBs := hRB.sl
      refine EW.thenExit ?_
      refine EW.thenExit ?_
      refine EW.inHere ?_
      refine EW.next ?_
      refine CW.seq ?_
      refine CW.rseq ?_
      refine WL.op (by decide) (R.move rfl) ?_
      refine WL.gtrS (by decide) rfl rfl (fun h2 => ?_) (fun h2 => ?_)
      · skip
        refine WL.next ?_
        refine CW.condT rfl ?_
        refine CW.rseq ?_
        refine WL.op (by decide) (R.loadM rfl hB5) ?_
        refine WL.eff rfl (OP.call (by decide) Tryd.func30 (by kernel_rfl) (by kernel_rfl) rfl (all_any _ _ _ ⟨_, _, rfl, (hRBs.keep0 hK), (RSl.nil _)⟩ (hG.keep0 hC) (cnt_small (by omega))) ?_)
        rintro ed w8 ⟨rfl, hc_w8⟩
        rw [cnt_bad (by omega)]
        refine ⟨_, rfl, ?_⟩
        have hB5 := hc_w8.at hB5 (fun e => e)
        have hC := hC.trans hc_w8
        have hK := hK.trans hc_w8
        have hz_w8 := hc_w8.size
        refine WL.op (by decide) (R.not rfl) ?_
        refine WL.op (by decide) (R.assign rfl) ?_
        refine WL.next ?_
        refine CW.ret ?_
        refine EW.thenRet ?_
        exact EW.ret1 (.inl rfl) rfl rfl ⟨rfl, hC⟩
      · skip
        refine WL.next ?_
        refine CW.condF rfl ?_
        refine CW.skip ?_
        refine EW.next ?_
        refine CW.rseq ?_
        refine WL.op (by decide) (R.loadM rfl hB5) ?_
        refine WL.eff rfl (OP.call (by decide) Tryd.func24 (by kernel_rfl) (by kernel_rfl) rfl (encode_src _ _ _ ⟨_, _, rfl, (hRBs.keep0 hK), (RSl.nil _)⟩ (cnt_back (by omega))) ?_)
        rintro ed w9 ⟨gE, ceE, bsE, rfl, hbsE, hBufE, hSrcE, hmoreE, hdecE, hblE, hgeE, hglE, hc_w9⟩
        refine ⟨_, rfl, ?_⟩
        have hB5 := hc_w9.at hB5 (fun e => e)
        have hC := hC.trans hc_w9
        have hK := hK.trans hc_w9
        have hz_w9 := hc_w9.size
        have hK9 : Chg (fun _ => False) w9 w9 := Chg.refl _ _
        refine WL.eff rfl (OP.call (by decide) Tryd.func27 (by kernel_rfl) (by kernel_rfl) rfl (decode_any _ _ _ _ _ (hSrcE.keep0 hK9) (by rintro _ _ ⟨⟩; omega) (by omega) (hG.keep0 hC)) ?_)
        rintro ed w10 ⟨hc_w10, hres⟩
        rw [hdecE] at hres
        obtain ⟨vD, rfl, vaD, vbD, rfl, hvaD, hvbD, hoaD, hobD⟩ := hres
        obtain ⟨AaD, caD, rfl, _⟩ := hvaD.form
        obtain ⟨AbD, cbD, rfl, _⟩ := hvbD.form
        have hlenD := len_dec hdecE
        refine ⟨_, rfl, ?_⟩
        have hB5 := hc_w10.at hB5 (fun e => e)
        have hC := hC.trans hc_w10
        have hK := hK.trans hc_w10
        have hK9 := hK9.trans hc_w10
        have hz_w10 := hc_w10.size
        have hK10 : Chg (fun _ => False) w10 w10 := Chg.refl _ _
        refine WL.op (by decide) (R.move rfl) ?_
        refine WL.op (by decide) (R.extract rfl rfl) ?_
        refine WL.op (by decide) (R.extract rfl rfl) ?_
        refine WL.eff rfl (OP.allocM (by decide) ?_)
        intro w11 hc_w11 hs_w11 hB6
        obtain ⟨b6, he_b6⟩ : ∃ b, b = w10.heap.size := ⟨_, rfl⟩
        rw [← he_b6] at hB6 ⊢
        have hB5 := hc_w11.at hB5 (fun e => e)
        have hC := hC.trans hc_w11
        have hK := hK.trans hc_w11
        have hK9 := hK9.trans hc_w11
        have hK10 := hK10.trans hc_w11
        have hz_w11 := hc_w11.size
        refine WL.eff rfl (OP.storeM rfl rfl hB6 ?_)
        intro w12 hc_w12 hs_w12 hB6
        have hB5 := hc_w12.at hB5 (fun e => by omega)
        have hC := hC.thenB hc_w12 (by omega)
        have hK := hK.thenB hc_w12 (by omega)
        have hK9 := hK9.thenB hc_w12 (by omega)
        have hK10 := hK10.thenB hc_w12 (by omega)
        refine WL.op (by decide) (R.assign rfl) ?_
        refine WL.next ?_
        refine CW.rseq ?_
        refine WL.op (by decide) (R.loadM rfl hB5) ?_
        refine WL.eff rfl (OP.call (by decide) Tryd.func30 (by kernel_rfl) (by kernel_rfl) rfl (all_any _ _ _ ⟨_, _, rfl, (hRBs.keep0 hK), (RSl.nil _)⟩ (hG.keep0 hC) (cnt_small (by omega))) ?_)
        rintro ed w13 ⟨rfl, hc_w13⟩
        rw [(cnt_back (by omega)).all]
        refine ⟨_, rfl, ?_⟩
        have hB5 := hc_w13.at hB5 (fun e => e)
        have hB6 := hc_w13.at hB6 (fun e => e)
        have hC := hC.trans hc_w13
        have hK := hK.trans hc_w13
        have hK9 := hK9.trans hc_w13
        have hK10 := hK10.trans hc_w13
        have hz_w13 := hc_w13.size
        refine WL.op (by decide) (R.move rfl) ?_
        refine WL.gop (by decide) rfl rfl rfl (R.move rfl) ?_
        refine WL.gop (by decide) rfl rfl rfl (R.eql rfl rfl (decide_eq_true (rfl))) ?_
        refine WL.op (by decide) (R.pickT rfl rfl) ?_
        refine WL.op (by decide) (R.move rfl) ?_
        refine WL.gop (by decide) rfl rfl rfl (FA33_6 rfl) ?_
        refine WL.gop (by decide) rfl rfl rfl (R.load Tryd.underlying31 rfl rfl (cell_at hB6 rfl)) ?_
        refine WL.gop (by decide) rfl rfl rfl (R.lenSlice rfl Tryd.underlying31 rfl) ?_
        refine WL.gop (by decide) rfl rfl rfl (R.move rfl) ?_
        refine WL.gop (by decide) rfl rfl rfl (R.eql rfl rfl (decide_eq_true (by simp [cntM]))) ?_
        refine WL.op (by decide) (R.pickT rfl rfl) ?_
        refine WL.op (by decide) (R.assign rfl) ?_
        refine WL.next ?_
        refine CW.ret ?_
        exact EW.ret1 (.inl rfl) rfl rfl ⟨rfl, hC⟩
end Go.Proofs.YthcpjcgjmdfpjaaDoor

namespace Go.Proofs.YthcpjcgjmdfpjaaDoor
open Go Go.ChangeShapes Go.WideShapes Go.ChangeAt Go.RowKit
set_option maxRecDepth 100000

theorem msgCounts_lifted (os : Os) (started : os.Started) (H : Type) (enc : TypeId × Value → H) :
    ReturnsInHanded {} Tryd.checked os 9 .any (fun w args => (Rows.msgCountsSpec.pre enc Tryd.prog Tryd.f9 [] false w args ∧ laidMetH Tryd.prog laidL w) ∧ sizedMet enc Tryd.prog Tryd.f9 (OpenSpec.ofChange Rows.msgCountsSpec) false w args)
      (Rows.msgCountsSpec.post enc Tryd.prog Tryd.f9 false true false false) := by
  refine law_lifted (s := Rows.msgCountsSpec) started Tryd.func9 (by kernel_rfl) rfl (by kernel_rfl) (by kernel_rfl) ?_ ?_
    (ChangeSpec.witness_shaped (enc := enc) (C := Tryd.checked) (os := os) (X := fun w _ => laidMetH Tryd.prog laidL w) false (World.laidAll Tryd.prog os laidL) #[.int .i64 0, .agg seed0.cells.toArray] 8 (World.laidAll_os _ _ _)
      (World.shaped_of_ZipB (by kernel_rfl) (by kernel_rfl)) (by kernel_rfl) (by kernel_rfl) (by kernel_rfl)
      (by rw [MakeChecks.laidMetH_plain _ _ _ (by kernel_rfl)]; exact laidMet_laidAll _ (by kernel_rfl) (by kernel_rfl))) ?_
  · intro ds hl
    rw [show Tryd.f9.params.size = 2 by rw [Tryd.params9]; rfl] at hl
    obtain ⟨d0, d1, rfl⟩ := list2 hl
    rfl
  · intro W vs ds ps h
    exact trodAll_len h
  intro W base args ds p hval hA hlt hw hG
  rw [Tryd.params9] at hA hval hw
  obtain ⟨v0, v1, d0, d1, p0, p1, rfl, rfl, rfl, h0, h1⟩ := trodAll_two hA
  obtain ⟨n, rfl, rfl, rfl, _⟩ := open_int Tryd.underlying3 (hval 0 3 v0 rfl rfl) h0
  obtain ⟨s, rfl, hO⟩ := open_seed (hval 1 50 v1 rfl rfl) h1
  exact msgCounts_any n s W hO.a hG

theorem msgCounts_joined : joinedFacts Tryd.prog 9 Tryd.f9 Rows.msgCountsSpec Rows.msgCountsRow = true :=
  joined_of seat_mayEnter seat_lifts seat_make rfl rfl rfl rfl (by kernel_rfl) (by kernel_rfl) (by kernel_rfl) (by kernel_rfl) (by kernel_rfl) (by kernel_rfl) (by kernel_rfl) (by kernel_rfl) (by kernel_rfl) (by kernel_rfl) (by kernel_rfl) (by kernel_rfl) (by kernel_rfl) (by kernel_rfl) (by kernel_rfl) (by kernel_rfl) (by kernel_rfl) (by kernel_rfl) (by kernel_rfl) (by kernel_rfl) (by kernel_rfl) (by kernel_rfl) (by kernel_rfl) (by kernel_rfl) (by kernel_rfl) (by kernel_rfl) (by kernel_rfl) (by kernel_rfl)
theorem msgCounts_holds : Rows.MsgCountsSaid :=
  OpenClaim.holds_of_wide 9 Tryd.f9 rfl rfl rfl rfl rfl rfl rfl ⟨rfl, rfl, rfl, rfl, rfl⟩ rfl rfl rfl rfl rfl (by kernel_rfl) Tryd.func9 msgCounts_joined
    (of_decide_eq_true (by kernel_rfl)) (by unfold Func.isWrapper; first | (rw [if_pos (by decide +kernel)]; kernel_rfl) | (rw [if_neg (by decide +kernel)]; exact ⟨rfl, rfl⟩))
    (fun os started H enc _ => msgCounts_lifted os started H enc)
theorem msgCounts_card : Rows.MsgCountsCardSaid :=
  Claim7.holds_tied_plain_at .later [] [.data] true (true, "6afa14409c1fcf784e159d3dd9af9e0af6fc07a3d3e06aa2c8b4c577951ca517") false msgCounts_holds (fun _ h => by cases h) (by kernel_rfl) (fun _ h => by cases h) msgCounts_row_tie rfl ⟨rfl, rfl⟩ seat_main rfl
    (fun f fn hf hfn => by
      obtain rfl : f = 9 := Option.some.inj ((show Tryd.prog.funcNamed "nomenclator/nomenclatorlaw04.MsgCounts" = some 9 by kernel_rfl).symm.trans hf) |>.symm
      obtain rfl : fn = Tryd.f9 := (Option.some.inj (Tryd.func9.symm.trans hfn)).symm
      exact ⟨by kernel_rfl, fun j t ht => by
        rw [Tryd.params9] at ht
        have hm : t ∈ [3, 50] := by simpa using Array.mem_of_getElem? ht
        have hall : ([3, 50].all fun u => !Tryd.prog.wantsStandIn u) = true := by kernel_rfl
        exact (show Tryd.prog.wantsStandIn t = false by simpa using List.all_eq_true.1 hall t hm)⟩)
    (by kernel_rfl)
end Go.Proofs.YthcpjcgjmdfpjaaDoor
