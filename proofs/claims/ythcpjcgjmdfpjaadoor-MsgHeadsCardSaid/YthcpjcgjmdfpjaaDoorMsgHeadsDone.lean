/- MsgHeads: the statement MsgHeads is proved (its card); no conditions. Here: MsgHeads, MsgHeadsCard. -/
import Derived.Test.YthcpjcgjmdfpjaaDoorWordsMsg
import Derived.Test.YthcpjcgjmdfpjaaDoorCoreB
import Derived.Test.YthcpjcgjmdfpjaaDoorCoreE
namespace Go.Proofs.YthcpjcgjmdfpjaaDoor
open Go Go.RowKit
set_option maxRecDepth 100000
set_option maxHeartbeats 4000000

theorem msgHeads_any (i n : Int) (w0 : World) (hG : Glob w0) : Calls Tryd.prog 18 #[.int .i64 i, .int .i64 n] w0 fun e w' => e = .returned (.bool true) ∧ Chg (fun _ => False) w0 w' := by
  have hC := Chg.refl (fun _ => False) w0
  refine calls_cw (args := [.int .i64 i, .int .i64 n]) Tryd.func18 rfl rfl ?_
  show CW _ _ _ 57 [(0, .int .i64 i), (1, .int .i64 n)] w0
  refine CW.rseq ?_
  refine WL.op (by decide) (R.assign rfl) ?_
  refine WL.next ?_
  refine CW.seq ?_
  refine CW.rseq ?_
  refine WL.eff rfl (OP.call (by decide) Tryd.func29 (by kernel_rfl) (by kernel_rfl) rfl (fit04_any _ (hG.keep0 hC)) ?_)
  rintro ed w1 ⟨rfl, hc_w1⟩
  refine ⟨_, rfl, ?_⟩
  have hC := hC.trans hc_w1
  have hz_w1 := hc_w1.size
  refine WL.op (by decide) (R.not rfl) ?_
  refine WL.next ?_
  refine CW.condF rfl ?_
  refine CW.skip ?_
  refine EW.next ?_
  refine CW.rseq ?_
  refine WL.op (by decide) (R.move rfl) ?_
  refine WL.op (by decide) (R.maskN 16 rfl rfl (by decide) rfl rfl) ?_
  refine WL.op (by decide) (R.build (parts := [(0, _), (1, _)]) (vals := [(0, _), (1, _)]) rfl (fun w => build25_2 [97, 46, 98] 1 w)) ?_
  refine WL.op (by decide) (R.build (parts := [(0, _), (1, _), (5, _)]) (vals := [(0, _), (1, _), (5, _)]) rfl (fun w => build57_015 [97, 46, 98] [120] 16 w)) ?_
  refine WL.eff rfl (OP.buildSliceR (by decide) rfl (show hdR.addr.length = 16 from rfl) ?_)
  intro w2 hc_w2 hs_w2 hN
  have hC := hC.trans hc_w2
  have hz_w2 := hc_w2.size
  have hva1 := RSl.one hN rfl (Nat.le_refl _)
  have hK2 : Chg (fun _ => False) w2 w2 := Chg.refl _ _
  refine WL.op (by decide) (R.build (parts := [(0, _), (5, _), (6, _)]) (vals := [(0, _), (5, _), (6, _)]) rfl (fun w => build33_056 _ [97, 46, 98] 1 _ _ _ hdR w)) ?_
  refine WL.eff rfl (OP.allocM (by decide) ?_)
  intro w3 hc_w3 hs_w3 hB5
  obtain ⟨b5, he_b5⟩ : ∃ b, b = w2.heap.size := ⟨_, rfl⟩
  rw [← he_b5] at hB5 ⊢
  have hC := hC.trans hc_w3
  have hK2 := hK2.trans hc_w3
  have hz_w3 := hc_w3.size
  refine WL.eff rfl (OP.storeM rfl rfl hB5 ?_)
  intro w4 hc_w4 hs_w4 hB5
  have hC := hC.thenB hc_w4 (by omega)
  have hK2 := hK2.thenB hc_w4 (by omega)
  refine WL.next ?_
  refine CW.rseq ?_
  refine WL.op (by decide) (R.loadM rfl hB5) ?_
  refine WL.eff rfl (OP.call (by decide) Tryd.func24 (by kernel_rfl) (by kernel_rfl) rfl (encode_src _ _ _ ⟨_, _, rfl, (hva1.keep0 hK2), (RSl.nil _)⟩ (hd_back (by omega))) ?_)
  rintro ed w5 ⟨gE, ceE, bsE, rfl, hbsE, hBufE, hSrcE, hmoreE, hdecE, hblE, hgeE, hglE, hc_w5⟩
  refine ⟨_, rfl, ?_⟩
  have hB5 := hc_w5.at hB5 (fun e => e)
  have hC := hC.trans hc_w5
  have hK2 := hK2.trans hc_w5
  have hz_w5 := hc_w5.size
  have hK5 : Chg (fun _ => False) w5 w5 := Chg.refl _ _
  refine WL.op (by decide) (R.assign rfl) ?_
  refine WL.next ?_
  refine CW.seq ?_
  refine CW.rseq ?_
  obtain ⟨x, y, hxy⟩ := hd_enc (i % ((2 ^ 16 : Nat) : Int))
  have hbe : bsE = hdB x y := hbsE.trans hxy
  refine WL.op (by decide) (R.move rfl) ?_
  refine WL.op (by decide) (R.lenSlice rfl Tryd.underlying36 rfl) ?_
  refine WL.op (by decide) (R.neq rfl rfl (decide_eq_false (by rw [hbe]; simp [hdB]))) ?_
  refine WL.next ?_
  refine CW.condF rfl ?_
  refine CW.skip ?_
  refine EW.next ?_
  refine CW.rseq ?_
  rcases K5 n with hK | hK | hK | hK | hK
  · skip
    refine WL.op (by decide) (R.build (parts := [(0, _), (1, _), (2, _), (3, _), (4, _)]) (vals := [(0, _), (1, _), (2, _), (3, _), (4, _)]) rfl build86) ?_
    refine WL.op (by decide) (R.move rfl) ?_
    refine WL.op (by decide) (R.rem rfl rfl (by decide)) ?_
    refine WL.op (by decide) (R.add rfl rfl (by have := tm5 n; omega)) ?_
    refine WL.op (by decide) (R.remC rfl rfl (by decide) (by have := tm5 n; omega) hK) ?_
    refine WL.op (by decide) (R.index1 (i := 0) Tryd.underlying86 Tryd.underlying3 rfl sz3 rfl rfl rfl (by decide) rfl) ?_
    refine WL.op (by decide) (R.assign rfl) ?_
    refine WL.next ?_
    refine CW.rseq ?_
    refine WL.op (by decide) (R.build (parts := [(0, _), (1, _), (2, _), (3, _), (4, _)]) (vals := [(0, _), (1, _), (2, _), (3, _), (4, _)]) rfl build87) ?_
    refine WL.op (by decide) (R.move rfl) ?_
    refine WL.op (by decide) (R.rem rfl rfl (by decide)) ?_
    refine WL.op (by decide) (R.add rfl rfl (by have := tm5 n; omega)) ?_
    refine WL.op (by decide) (R.remC rfl rfl (by decide) (by have := tm5 n; omega) hK) ?_
    refine WL.op (by decide) (R.index1 (i := 0) Tryd.underlying87 Tryd.underlying5 rfl sz5 rfl rfl rfl (by decide) rfl) ?_
    refine WL.op (by decide) (R.assign rfl) ?_
    refine WL.next ?_
    refine CW.rseq ?_
    refine WL.op (by decide) (R.move rfl) ?_
    refine WL.op (by decide) (R.move rfl) ?_
    refine WL.op (by decide) (R.move rfl) ?_
    refine WL.op (by decide) (R.indexAddr1 (i := 2) Tryd.underlying36 sz5 rfl rfl rfl (by rw [hbe]; exact Nat.le_of_ble_eq_true rfl)) ?_
    refine WL.eff rfl (OP.setB (j := 2) (hBufE.keep0 hK5) rfl rfl rfl (by rw [hbe]; exact Nat.le_of_ble_eq_true rfl) ?_)
    intro w6 hc_w6 hs_w6 hB2
    have hS2 := hB2.toSrc (by rw [hbe]; simp [hdB])
    rw [show bsE.set 2 8 = (hdB x y).set 2 8 by rw [hbe]] at hS2
    have hB5 := hc_w6.at hB5 (fun e => by omega)
    have hC := hC.thenB hc_w6 (by omega)
    have hK2 := hK2.thenB hc_w6 (by omega)
    have hK6 : Chg (fun _ => False) w6 w6 := Chg.refl _ _
    refine WL.next ?_
    refine CW.rseq ?_
    refine WL.op (by decide) (R.move rfl) ?_
    refine WL.eff rfl (OP.call (by decide) Tryd.func27 (by kernel_rfl) (by kernel_rfl) rfl (decode_any _ _ _ _ _ (hS2.keep0 hK6) (by rintro _ _ ⟨⟩; omega) (by omega) (hG.keep0 hC)) ?_)
    rintro ed w7 ⟨hc_w7, hres⟩
    rw [hd0] at hres
    obtain rfl := hres
    refine ⟨_, rfl, ?_⟩
    have hB5 := hc_w7.at hB5 (fun e => e)
    have hC := hC.trans hc_w7
    have hK2 := hK2.trans hc_w7
    have hK6 := hK6.trans hc_w7
    have hz_w7 := hc_w7.size
    refine WL.op (by decide) (R.move rfl) ?_
    refine WL.op (by decide) (R.extract rfl rfl) ?_
    refine WL.op (by decide) (R.extract rfl rfl) ?_
    refine WL.eff rfl (OP.allocM (by decide) ?_)
    intro w8 hc_w8 hs_w8 hB9
    obtain ⟨b9, he_b9⟩ : ∃ b, b = w7.heap.size := ⟨_, rfl⟩
    rw [← he_b9] at hB9 ⊢
    have hB5 := hc_w8.at hB5 (fun e => e)
    have hC := hC.trans hc_w8
    have hK2 := hK2.trans hc_w8
    have hK6 := hK6.trans hc_w8
    have hz_w8 := hc_w8.size
    refine WL.eff rfl (OP.storeM rfl rfl hB9 ?_)
    intro w9 hc_w9 hs_w9 hB9
    have hB5 := hc_w9.at hB5 (fun e => by omega)
    have hC := hC.thenB hc_w9 (by omega)
    have hK2 := hK2.thenB hc_w9 (by omega)
    have hK6 := hK6.thenB hc_w9 (by omega)
    refine WL.op (by decide) (R.assign rfl) ?_
    refine WL.next ?_
    refine CW.rseq ?_
    refine WL.eff rfl (OP.call (by decide) Tryd.func27 (by kernel_rfl) (by kernel_rfl) rfl (decode_any _ _ _ _ _ (Src.nil _) (fun _ _ h => by cases h) (by omega) (hG.keep0 hC)) ?_)
    rintro ed w10 ⟨hc_w10, hres⟩
    rw [(show decode [] = none by kernel_rfl)] at hres
    obtain rfl := hres
    refine ⟨_, rfl, ?_⟩
    have hB5 := hc_w10.at hB5 (fun e => e)
    have hB9 := hc_w10.at hB9 (fun e => e)
    have hC := hC.trans hc_w10
    have hK2 := hK2.trans hc_w10
    have hK6 := hK6.trans hc_w10
    have hz_w10 := hc_w10.size
    refine WL.op (by decide) (R.move rfl) ?_
    refine WL.op (by decide) (R.extract rfl rfl) ?_
    refine WL.op (by decide) (R.extract rfl rfl) ?_
    refine WL.eff rfl (OP.allocM (by decide) ?_)
    intro w11 hc_w11 hs_w11 hB11
    obtain ⟨b11, he_b11⟩ : ∃ b, b = w10.heap.size := ⟨_, rfl⟩
    rw [← he_b11] at hB11 ⊢
    have hB5 := hc_w11.at hB5 (fun e => e)
    have hB9 := hc_w11.at hB9 (fun e => e)
    have hC := hC.trans hc_w11
    have hK2 := hK2.trans hc_w11
    have hK6 := hK6.trans hc_w11
    have hz_w11 := hc_w11.size
    refine WL.eff rfl (OP.storeM rfl rfl hB11 ?_)
    intro w12 hc_w12 hs_w12 hB11
    have hB5 := hc_w12.at hB5 (fun e => by omega)
    have hB9 := hc_w12.at hB9 (fun e => by omega)
    have hC := hC.thenB hc_w12 (by omega)
    have hK2 := hK2.thenB hc_w12 (by omega)
    have hK6 := hK6.thenB hc_w12 (by omega)
    refine WL.op (by decide) (R.assign rfl) ?_
    refine WL.next ?_
    refine CW.rseq ?_
    refine WL.op (by decide) (R.move rfl) ?_
    refine WL.op (by decide) (R.eql rfl rfl (decide_eq_true (rfl))) ?_
    refine WL.op (by decide) (R.move rfl) ?_
    refine WL.gop (by decide) rfl rfl rfl (R.move rfl) ?_
    refine WL.gop (by decide) rfl rfl rfl (R.eql rfl rfl (decide_eq_true (rfl))) ?_
    refine WL.op (by decide) (R.pickT rfl rfl) ?_
    refine WL.op (by decide) (R.assign rfl) ?_
    refine WL.next ?_
    refine CW.ret ?_
    exact EW.ret1 (.inl rfl) rfl rfl ⟨rfl, hC⟩
  · skip
    refine WL.op (by decide) (R.build (parts := [(0, _), (1, _), (2, _), (3, _), (4, _)]) (vals := [(0, _), (1, _), (2, _), (3, _), (4, _)]) rfl build86) ?_
    refine WL.op (by decide) (R.move rfl) ?_
    refine WL.op (by decide) (R.rem rfl rfl (by decide)) ?_
    refine WL.op (by decide) (R.add rfl rfl (by have := tm5 n; omega)) ?_
    refine WL.op (by decide) (R.remC rfl rfl (by decide) (by have := tm5 n; omega) hK) ?_
    refine WL.op (by decide) (R.index1 (i := 1) Tryd.underlying86 Tryd.underlying3 rfl sz3 rfl rfl rfl (by decide) rfl) ?_
    refine WL.op (by decide) (R.assign rfl) ?_
    refine WL.next ?_
    refine CW.rseq ?_
    refine WL.op (by decide) (R.build (parts := [(0, _), (1, _), (2, _), (3, _), (4, _)]) (vals := [(0, _), (1, _), (2, _), (3, _), (4, _)]) rfl build87) ?_
    refine WL.op (by decide) (R.move rfl) ?_
    refine WL.op (by decide) (R.rem rfl rfl (by decide)) ?_
    refine WL.op (by decide) (R.add rfl rfl (by have := tm5 n; omega)) ?_
    refine WL.op (by decide) (R.remC rfl rfl (by decide) (by have := tm5 n; omega) hK) ?_
    refine WL.op (by decide) (R.index1 (i := 1) Tryd.underlying87 Tryd.underlying5 rfl sz5 rfl rfl rfl (by decide) rfl) ?_
    refine WL.op (by decide) (R.assign rfl) ?_
    refine WL.next ?_
    refine CW.rseq ?_
    refine WL.op (by decide) (R.move rfl) ?_
    refine WL.op (by decide) (R.move rfl) ?_
    refine WL.op (by decide) (R.move rfl) ?_
    refine WL.op (by decide) (R.indexAddr1 (i := 5) Tryd.underlying36 sz5 rfl rfl rfl (by rw [hbe]; exact Nat.le_of_ble_eq_true rfl)) ?_
    refine WL.eff rfl (OP.setB (j := 5) (hBufE.keep0 hK5) rfl rfl rfl (by rw [hbe]; exact Nat.le_of_ble_eq_true rfl) ?_)
    intro w13 hc_w13 hs_w13 hB2
    have hS2 := hB2.toSrc (by rw [hbe]; simp [hdB])
    rw [show bsE.set 5 2 = (hdB x y).set 5 2 by rw [hbe]] at hS2
    have hB5 := hc_w13.at hB5 (fun e => by omega)
    have hC := hC.thenB hc_w13 (by omega)
    have hK2 := hK2.thenB hc_w13 (by omega)
    have hK13 : Chg (fun _ => False) w13 w13 := Chg.refl _ _
    refine WL.next ?_
    refine CW.rseq ?_
    refine WL.op (by decide) (R.move rfl) ?_
    refine WL.eff rfl (OP.call (by decide) Tryd.func27 (by kernel_rfl) (by kernel_rfl) rfl (decode_any _ _ _ _ _ (hS2.keep0 hK13) (by rintro _ _ ⟨⟩; omega) (by omega) (hG.keep0 hC)) ?_)
    rintro ed w14 ⟨hc_w14, hres⟩
    rw [hd1] at hres
    obtain rfl := hres
    refine ⟨_, rfl, ?_⟩
    have hB5 := hc_w14.at hB5 (fun e => e)
    have hC := hC.trans hc_w14
    have hK2 := hK2.trans hc_w14
    have hK13 := hK13.trans hc_w14
    have hz_w14 := hc_w14.size
    refine WL.op (by decide) (R.move rfl) ?_
    refine WL.op (by decide) (R.extract rfl rfl) ?_
    refine WL.op (by decide) (R.extract rfl rfl) ?_
    refine WL.eff rfl (OP.allocM (by decide) ?_)
    intro w15 hc_w15 hs_w15 hB9
    obtain ⟨b9, he_b9⟩ : ∃ b, b = w14.heap.size := ⟨_, rfl⟩
    rw [← he_b9] at hB9 ⊢
    have hB5 := hc_w15.at hB5 (fun e => e)
    have hC := hC.trans hc_w15
    have hK2 := hK2.trans hc_w15
    have hK13 := hK13.trans hc_w15
    have hz_w15 := hc_w15.size
    refine WL.eff rfl (OP.storeM rfl rfl hB9 ?_)
    intro w16 hc_w16 hs_w16 hB9
    have hB5 := hc_w16.at hB5 (fun e => by omega)
    have hC := hC.thenB hc_w16 (by omega)
    have hK2 := hK2.thenB hc_w16 (by omega)
    have hK13 := hK13.thenB hc_w16 (by omega)
    refine WL.op (by decide) (R.assign rfl) ?_
    refine WL.next ?_
    refine CW.rseq ?_
    refine WL.eff rfl (OP.call (by decide) Tryd.func27 (by kernel_rfl) (by kernel_rfl) rfl (decode_any _ _ _ _ _ (Src.nil _) (fun _ _ h => by cases h) (by omega) (hG.keep0 hC)) ?_)
    rintro ed w17 ⟨hc_w17, hres⟩
    rw [(show decode [] = none by kernel_rfl)] at hres
    obtain rfl := hres
    refine ⟨_, rfl, ?_⟩
    have hB5 := hc_w17.at hB5 (fun e => e)
    have hB9 := hc_w17.at hB9 (fun e => e)
    have hC := hC.trans hc_w17
    have hK2 := hK2.trans hc_w17
    have hK13 := hK13.trans hc_w17
    have hz_w17 := hc_w17.size
    refine WL.op (by decide) (R.move rfl) ?_
    refine WL.op (by decide) (R.extract rfl rfl) ?_
    refine WL.op (by decide) (R.extract rfl rfl) ?_
    refine WL.eff rfl (OP.allocM (by decide) ?_)
    intro w18 hc_w18 hs_w18 hB11
    obtain ⟨b11, he_b11⟩ : ∃ b, b = w17.heap.size := ⟨_, rfl⟩
    rw [← he_b11] at hB11 ⊢
    have hB5 := hc_w18.at hB5 (fun e => e)
    have hB9 := hc_w18.at hB9 (fun e => e)
    have hC := hC.trans hc_w18
    have hK2 := hK2.trans hc_w18
    have hK13 := hK13.trans hc_w18
    have hz_w18 := hc_w18.size
    refine WL.eff rfl (OP.storeM rfl rfl hB11 ?_)
    intro w19 hc_w19 hs_w19 hB11
    have hB5 := hc_w19.at hB5 (fun e => by omega)
    have hB9 := hc_w19.at hB9 (fun e => by omega)
    have hC := hC.thenB hc_w19 (by omega)
    have hK2 := hK2.thenB hc_w19 (by omega)
    have hK13 := hK13.thenB hc_w19 (by omega)
    refine WL.op (by decide) (R.assign rfl) ?_
    refine WL.next ?_
    refine CW.rseq ?_
    refine WL.op (by decide) (R.move rfl) ?_
    refine WL.op (by decide) (R.eql rfl rfl (decide_eq_true (rfl))) ?_
    refine WL.op (by decide) (R.move rfl) ?_
    refine WL.gop (by decide) rfl rfl rfl (R.move rfl) ?_
    refine WL.gop (by decide) rfl rfl rfl (R.eql rfl rfl (decide_eq_true (rfl))) ?_
    refine WL.op (by decide) (R.pickT rfl rfl) ?_
    refine WL.op (by decide) (R.assign rfl) ?_
    refine WL.next ?_
    refine CW.ret ?_
    exact EW.ret1 (.inl rfl) rfl rfl ⟨rfl, hC⟩
  · skip
    refine WL.op (by decide) (R.build (parts := [(0, _), (1, _), (2, _), (3, _), (4, _)]) (vals := [(0, _), (1, _), (2, _), (3, _), (4, _)]) rfl build86) ?_
    refine WL.op (by decide) (R.move rfl) ?_
    refine WL.op (by decide) (R.rem rfl rfl (by decide)) ?_
    refine WL.op (by decide) (R.add rfl rfl (by have := tm5 n; omega)) ?_
    refine WL.op (by decide) (R.remC rfl rfl (by decide) (by have := tm5 n; omega) hK) ?_
    refine WL.op (by decide) (R.index1 (i := 2) Tryd.underlying86 Tryd.underlying3 rfl sz3 rfl rfl rfl (by decide) rfl) ?_
    refine WL.op (by decide) (R.assign rfl) ?_
    refine WL.next ?_
    refine CW.rseq ?_
    refine WL.op (by decide) (R.build (parts := [(0, _), (1, _), (2, _), (3, _), (4, _)]) (vals := [(0, _), (1, _), (2, _), (3, _), (4, _)]) rfl build87) ?_
    refine WL.op (by decide) (R.move rfl) ?_
    refine WL.op (by decide) (R.rem rfl rfl (by decide)) ?_
    refine WL.op (by decide) (R.add rfl rfl (by have := tm5 n; omega)) ?_
    refine WL.op (by decide) (R.remC rfl rfl (by decide) (by have := tm5 n; omega) hK) ?_
    refine WL.op (by decide) (R.index1 (i := 2) Tryd.underlying87 Tryd.underlying5 rfl sz5 rfl rfl rfl (by decide) rfl) ?_
    refine WL.op (by decide) (R.assign rfl) ?_
    refine WL.next ?_
    refine CW.rseq ?_
    refine WL.op (by decide) (R.move rfl) ?_
    refine WL.op (by decide) (R.move rfl) ?_
    refine WL.op (by decide) (R.move rfl) ?_
    refine WL.op (by decide) (R.indexAddr1 (i := 20) Tryd.underlying36 sz5 rfl rfl rfl (by rw [hbe]; exact Nat.le_of_ble_eq_true rfl)) ?_
    refine WL.eff rfl (OP.setB (j := 20) (hBufE.keep0 hK5) rfl rfl rfl (by rw [hbe]; exact Nat.le_of_ble_eq_true rfl) ?_)
    intro w20 hc_w20 hs_w20 hB2
    have hS2 := hB2.toSrc (by rw [hbe]; simp [hdB])
    rw [show bsE.set 20 2 = (hdB x y).set 20 2 by rw [hbe]] at hS2
    have hB5 := hc_w20.at hB5 (fun e => by omega)
    have hC := hC.thenB hc_w20 (by omega)
    have hK2 := hK2.thenB hc_w20 (by omega)
    have hK20 : Chg (fun _ => False) w20 w20 := Chg.refl _ _
    refine WL.next ?_
    refine CW.rseq ?_
    refine WL.op (by decide) (R.move rfl) ?_
    refine WL.eff rfl (OP.call (by decide) Tryd.func27 (by kernel_rfl) (by kernel_rfl) rfl (decode_any _ _ _ _ _ (hS2.keep0 hK20) (by rintro _ _ ⟨⟩; omega) (by omega) (hG.keep0 hC)) ?_)
    rintro ed w21 ⟨hc_w21, hres⟩
    rw [hd2] at hres
    obtain rfl := hres
    refine ⟨_, rfl, ?_⟩
    have hB5 := hc_w21.at hB5 (fun e => e)
    have hC := hC.trans hc_w21
    have hK2 := hK2.trans hc_w21
    have hK20 := hK20.trans hc_w21
    have hz_w21 := hc_w21.size
    refine WL.op (by decide) (R.move rfl) ?_
    refine WL.op (by decide) (R.extract rfl rfl) ?_
    refine WL.op (by decide) (R.extract rfl rfl) ?_
    refine WL.eff rfl (OP.allocM (by decide) ?_)
    intro w22 hc_w22 hs_w22 hB9
    obtain ⟨b9, he_b9⟩ : ∃ b, b = w21.heap.size := ⟨_, rfl⟩
    rw [← he_b9] at hB9 ⊢
    have hB5 := hc_w22.at hB5 (fun e => e)
    have hC := hC.trans hc_w22
    have hK2 := hK2.trans hc_w22
    have hK20 := hK20.trans hc_w22
    have hz_w22 := hc_w22.size
    refine WL.eff rfl (OP.storeM rfl rfl hB9 ?_)
    intro w23 hc_w23 hs_w23 hB9
    have hB5 := hc_w23.at hB5 (fun e => by omega)
    have hC := hC.thenB hc_w23 (by omega)
    have hK2 := hK2.thenB hc_w23 (by omega)
    have hK20 := hK20.thenB hc_w23 (by omega)
    refine WL.op (by decide) (R.assign rfl) ?_
    refine WL.next ?_
    refine CW.rseq ?_
    refine WL.eff rfl (OP.call (by decide) Tryd.func27 (by kernel_rfl) (by kernel_rfl) rfl (decode_any _ _ _ _ _ (Src.nil _) (fun _ _ h => by cases h) (by omega) (hG.keep0 hC)) ?_)
    rintro ed w24 ⟨hc_w24, hres⟩
    rw [(show decode [] = none by kernel_rfl)] at hres
    obtain rfl := hres
    refine ⟨_, rfl, ?_⟩
    have hB5 := hc_w24.at hB5 (fun e => e)
    have hB9 := hc_w24.at hB9 (fun e => e)
    have hC := hC.trans hc_w24
    have hK2 := hK2.trans hc_w24
    have hK20 := hK20.trans hc_w24
    have hz_w24 := hc_w24.size
    refine WL.op (by decide) (R.move rfl) ?_
    refine WL.op (by decide) (R.extract rfl rfl) ?_
    refine WL.op (by decide) (R.extract rfl rfl) ?_
    refine WL.eff rfl (OP.allocM (by decide) ?_)
    intro w25 hc_w25 hs_w25 hB11
    obtain ⟨b11, he_b11⟩ : ∃ b, b = w24.heap.size := ⟨_, rfl⟩
    rw [← he_b11] at hB11 ⊢
    have hB5 := hc_w25.at hB5 (fun e => e)
    have hB9 := hc_w25.at hB9 (fun e => e)
    have hC := hC.trans hc_w25
    have hK2 := hK2.trans hc_w25
    have hK20 := hK20.trans hc_w25
    have hz_w25 := hc_w25.size
    refine WL.eff rfl (OP.storeM rfl rfl hB11 ?_)
    intro w26 hc_w26 hs_w26 hB11
    have hB5 := hc_w26.at hB5 (fun e => by omega)
    have hB9 := hc_w26.at hB9 (fun e => by omega)
    have hC := hC.thenB hc_w26 (by omega)
    have hK2 := hK2.thenB hc_w26 (by omega)
    have hK20 := hK20.thenB hc_w26 (by omega)
    refine WL.op (by decide) (R.assign rfl) ?_
    refine WL.next ?_
    refine CW.rseq ?_
    refine WL.op (by decide) (R.move rfl) ?_
    refine WL.op (by decide) (R.eql rfl rfl (decide_eq_true (rfl))) ?_
    refine WL.op (by decide) (R.move rfl) ?_
    refine WL.gop (by decide) rfl rfl rfl (R.move rfl) ?_
    refine WL.gop (by decide) rfl rfl rfl (R.eql rfl rfl (decide_eq_true (rfl))) ?_
    refine WL.op (by decide) (R.pickT rfl rfl) ?_
    refine WL.op (by decide) (R.assign rfl) ?_
    refine WL.next ?_
    refine CW.ret ?_
    exact EW.ret1 (.inl rfl) rfl rfl ⟨rfl, hC⟩
  · skip
    refine WL.op (by decide) (R.build (parts := [(0, _), (1, _), (2, _), (3, _), (4, _)]) (vals := [(0, _), (1, _), (2, _), (3, _), (4, _)]) rfl build86) ?_
    refine WL.op (by decide) (R.move rfl) ?_
    refine WL.op (by decide) (R.rem rfl rfl (by decide)) ?_
    refine WL.op (by decide) (R.add rfl rfl (by have := tm5 n; omega)) ?_
    refine WL.op (by decide) (R.remC rfl rfl (by decide) (by have := tm5 n; omega) hK) ?_
    refine WL.op (by decide) (R.index1 (i := 3) Tryd.underlying86 Tryd.underlying3 rfl sz3 rfl rfl rfl (by decide) rfl) ?_
    refine WL.op (by decide) (R.assign rfl) ?_
    refine WL.next ?_
    refine CW.rseq ?_
    refine WL.op (by decide) (R.build (parts := [(0, _), (1, _), (2, _), (3, _), (4, _)]) (vals := [(0, _), (1, _), (2, _), (3, _), (4, _)]) rfl build87) ?_
    refine WL.op (by decide) (R.move rfl) ?_
    refine WL.op (by decide) (R.rem rfl rfl (by decide)) ?_
    refine WL.op (by decide) (R.add rfl rfl (by have := tm5 n; omega)) ?_
    refine WL.op (by decide) (R.remC rfl rfl (by decide) (by have := tm5 n; omega) hK) ?_
    refine WL.op (by decide) (R.index1 (i := 3) Tryd.underlying87 Tryd.underlying5 rfl sz5 rfl rfl rfl (by decide) rfl) ?_
    refine WL.op (by decide) (R.assign rfl) ?_
    refine WL.next ?_
    refine CW.rseq ?_
    refine WL.op (by decide) (R.move rfl) ?_
    refine WL.op (by decide) (R.move rfl) ?_
    refine WL.op (by decide) (R.move rfl) ?_
    refine WL.op (by decide) (R.indexAddr1 (i := 22) Tryd.underlying36 sz5 rfl rfl rfl (by rw [hbe]; exact Nat.le_of_ble_eq_true rfl)) ?_
    refine WL.eff rfl (OP.setB (j := 22) (hBufE.keep0 hK5) rfl rfl rfl (by rw [hbe]; exact Nat.le_of_ble_eq_true rfl) ?_)
    intro w27 hc_w27 hs_w27 hB2
    have hS2 := hB2.toSrc (by rw [hbe]; simp [hdB])
    rw [show bsE.set 22 40 = (hdB x y).set 22 40 by rw [hbe]] at hS2
    have hB5 := hc_w27.at hB5 (fun e => by omega)
    have hC := hC.thenB hc_w27 (by omega)
    have hK2 := hK2.thenB hc_w27 (by omega)
    have hK27 : Chg (fun _ => False) w27 w27 := Chg.refl _ _
    refine WL.next ?_
    refine CW.rseq ?_
    refine WL.op (by decide) (R.move rfl) ?_
    refine WL.eff rfl (OP.call (by decide) Tryd.func27 (by kernel_rfl) (by kernel_rfl) rfl (decode_any _ _ _ _ _ (hS2.keep0 hK27) (by rintro _ _ ⟨⟩; omega) (by omega) (hG.keep0 hC)) ?_)
    rintro ed w28 ⟨hc_w28, hres⟩
    rw [hd3] at hres
    obtain rfl := hres
    refine ⟨_, rfl, ?_⟩
    have hB5 := hc_w28.at hB5 (fun e => e)
    have hC := hC.trans hc_w28
    have hK2 := hK2.trans hc_w28
    have hK27 := hK27.trans hc_w28
    have hz_w28 := hc_w28.size
    refine WL.op (by decide) (R.move rfl) ?_
    refine WL.op (by decide) (R.extract rfl rfl) ?_
    refine WL.op (by decide) (R.extract rfl rfl) ?_
    refine WL.eff rfl (OP.allocM (by decide) ?_)
    intro w29 hc_w29 hs_w29 hB9
    obtain ⟨b9, he_b9⟩ : ∃ b, b = w28.heap.size := ⟨_, rfl⟩
    rw [← he_b9] at hB9 ⊢
    have hB5 := hc_w29.at hB5 (fun e => e)
    have hC := hC.trans hc_w29
    have hK2 := hK2.trans hc_w29
    have hK27 := hK27.trans hc_w29
    have hz_w29 := hc_w29.size
    refine WL.eff rfl (OP.storeM rfl rfl hB9 ?_)
    intro w30 hc_w30 hs_w30 hB9
    have hB5 := hc_w30.at hB5 (fun e => by omega)
    have hC := hC.thenB hc_w30 (by omega)
    have hK2 := hK2.thenB hc_w30 (by omega)
    have hK27 := hK27.thenB hc_w30 (by omega)
    refine WL.op (by decide) (R.assign rfl) ?_
    refine WL.next ?_
    refine CW.rseq ?_
    refine WL.eff rfl (OP.call (by decide) Tryd.func27 (by kernel_rfl) (by kernel_rfl) rfl (decode_any _ _ _ _ _ (Src.nil _) (fun _ _ h => by cases h) (by omega) (hG.keep0 hC)) ?_)
    rintro ed w31 ⟨hc_w31, hres⟩
    rw [(show decode [] = none by kernel_rfl)] at hres
    obtain rfl := hres
    refine ⟨_, rfl, ?_⟩
    have hB5 := hc_w31.at hB5 (fun e => e)
    have hB9 := hc_w31.at hB9 (fun e => e)
    have hC := hC.trans hc_w31
    have hK2 := hK2.trans hc_w31
    have hK27 := hK27.trans hc_w31
    have hz_w31 := hc_w31.size
    refine WL.op (by decide) (R.move rfl) ?_
    refine WL.op (by decide) (R.extract rfl rfl) ?_
    refine WL.op (by decide) (R.extract rfl rfl) ?_
    refine WL.eff rfl (OP.allocM (by decide) ?_)
    intro w32 hc_w32 hs_w32 hB11
    obtain ⟨b11, he_b11⟩ : ∃ b, b = w31.heap.size := ⟨_, rfl⟩
    rw [← he_b11] at hB11 ⊢
    have hB5 := hc_w32.at hB5 (fun e => e)
    have hB9 := hc_w32.at hB9 (fun e => e)
    have hC := hC.trans hc_w32
    have hK2 := hK2.trans hc_w32
    have hK27 := hK27.trans hc_w32
    have hz_w32 := hc_w32.size
    refine WL.eff rfl (OP.storeM rfl rfl hB11 ?_)
    intro w33 hc_w33 hs_w33 hB11
    have hB5 := hc_w33.at hB5 (fun e => by omega)
    have hB9 := hc_w33.at hB9 (fun e => by omega)
    have hC := hC.thenB hc_w33 (by omega)
    have hK2 := hK2.thenB hc_w33 (by omega)
    have hK27 := hK27.thenB hc_w33 (by omega)
    refine WL.op (by decide) (R.assign rfl) ?_
    refine WL.next ?_
    refine CW.rseq ?_
    refine WL.op (by decide) (R.move rfl) ?_
    refine WL.op (by decide) (R.eql rfl rfl (decide_eq_true (rfl))) ?_
    refine WL.op (by decide) (R.move rfl) ?_
    refine WL.gop (by decide) rfl rfl rfl (R.move rfl) ?_
    refine WL.gop (by decide) rfl rfl rfl (R.eql rfl rfl (decide_eq_true (rfl))) ?_
    refine WL.op (by decide) (R.pickT rfl rfl) ?_
    refine WL.op (by decide) (R.assign rfl) ?_
    refine WL.next ?_
    refine CW.ret ?_
    exact EW.ret1 (.inl rfl) rfl rfl ⟨rfl, hC⟩
  · skip
    refine WL.op (by decide) (R.build (parts := [(0, _), (1, _), (2, _), (3, _), (4, _)]) (vals := [(0, _), (1, _), (2, _), (3, _), (4, _)]) rfl build86) ?_
    refine WL.op (by decide) (R.move rfl) ?_
    refine WL.op (by decide) (R.rem rfl rfl (by decide)) ?_
    refine WL.op (by decide) (R.add rfl rfl (by have := tm5 n; omega)) ?_
    refine WL.op (by decide) (R.remC rfl rfl (by decide) (by have := tm5 n; omega) hK) ?_
    refine WL.op (by decide) (R.index1 (i := 4) Tryd.underlying86 Tryd.underlying3 rfl sz3 rfl rfl rfl (by decide) rfl) ?_
    refine WL.op (by decide) (R.assign rfl) ?_
    refine WL.next ?_
    refine CW.rseq ?_
    refine WL.op (by decide) (R.build (parts := [(0, _), (1, _), (2, _), (3, _), (4, _)]) (vals := [(0, _), (1, _), (2, _), (3, _), (4, _)]) rfl build87) ?_
    refine WL.op (by decide) (R.move rfl) ?_
    refine WL.op (by decide) (R.rem rfl rfl (by decide)) ?_
    refine WL.op (by decide) (R.add rfl rfl (by have := tm5 n; omega)) ?_
    refine WL.op (by decide) (R.remC rfl rfl (by decide) (by have := tm5 n; omega) hK) ?_
    refine WL.op (by decide) (R.index1 (i := 4) Tryd.underlying87 Tryd.underlying5 rfl sz5 rfl rfl rfl (by decide) rfl) ?_
    refine WL.op (by decide) (R.assign rfl) ?_
    refine WL.next ?_
    refine CW.rseq ?_
    refine WL.op (by decide) (R.move rfl) ?_
    refine WL.op (by decide) (R.move rfl) ?_
    refine WL.op (by decide) (R.move rfl) ?_
    refine WL.op (by decide) (R.indexAddr1 (i := 21) Tryd.underlying36 sz5 rfl rfl rfl (by rw [hbe]; exact Nat.le_of_ble_eq_true rfl)) ?_
    refine WL.eff rfl (OP.setB (j := 21) (hBufE.keep0 hK5) rfl rfl rfl (by rw [hbe]; exact Nat.le_of_ble_eq_true rfl) ?_)
    intro w34 hc_w34 hs_w34 hB2
    have hS2 := hB2.toSrc (by rw [hbe]; simp [hdB])
    rw [show bsE.set 21 255 = (hdB x y).set 21 255 by rw [hbe]] at hS2
    have hB5 := hc_w34.at hB5 (fun e => by omega)
    have hC := hC.thenB hc_w34 (by omega)
    have hK2 := hK2.thenB hc_w34 (by omega)
    have hK34 : Chg (fun _ => False) w34 w34 := Chg.refl _ _
    refine WL.next ?_
    refine CW.rseq ?_
    refine WL.op (by decide) (R.move rfl) ?_
    refine WL.eff rfl (OP.call (by decide) Tryd.func27 (by kernel_rfl) (by kernel_rfl) rfl (decode_any _ _ _ _ _ (hS2.keep0 hK34) (by rintro _ _ ⟨⟩; omega) (by omega) (hG.keep0 hC)) ?_)
    rintro ed w35 ⟨hc_w35, hres⟩
    rw [hd4] at hres
    obtain rfl := hres
    refine ⟨_, rfl, ?_⟩
    have hB5 := hc_w35.at hB5 (fun e => e)
    have hC := hC.trans hc_w35
    have hK2 := hK2.trans hc_w35
    have hK34 := hK34.trans hc_w35
    have hz_w35 := hc_w35.size
    refine WL.op (by decide) (R.move rfl) ?_
    refine WL.op (by decide) (R.extract rfl rfl) ?_
    refine WL.op (by decide) (R.extract rfl rfl) ?_
    refine WL.eff rfl (OP.allocM (by decide) ?_)
    intro w36 hc_w36 hs_w36 hB9
    obtain ⟨b9, he_b9⟩ : ∃ b, b = w35.heap.size := ⟨_, rfl⟩
    rw [← he_b9] at hB9 ⊢
    have hB5 := hc_w36.at hB5 (fun e => e)
    have hC := hC.trans hc_w36
    have hK2 := hK2.trans hc_w36
    have hK34 := hK34.trans hc_w36
    have hz_w36 := hc_w36.size
    refine WL.eff rfl (OP.storeM rfl rfl hB9 ?_)
    intro w37 hc_w37 hs_w37 hB9
    have hB5 := hc_w37.at hB5 (fun e => by omega)
    have hC := hC.thenB hc_w37 (by omega)
    have hK2 := hK2.thenB hc_w37 (by omega)
    have hK34 := hK34.thenB hc_w37 (by omega)
    refine WL.op (by decide) (R.assign rfl) ?_
    refine WL.next ?_
    refine CW.rseq ?_
    refine WL.eff rfl (OP.call (by decide) Tryd.func27 (by kernel_rfl) (by kernel_rfl) rfl (decode_any _ _ _ _ _ (Src.nil _) (fun _ _ h => by cases h) (by omega) (hG.keep0 hC)) ?_)
    rintro ed w38 ⟨hc_w38, hres⟩
    rw [(show decode [] = none by kernel_rfl)] at hres
    obtain rfl := hres
    refine ⟨_, rfl, ?_⟩
    have hB5 := hc_w38.at hB5 (fun e => e)
    have hB9 := hc_w38.at hB9 (fun e => e)
    have hC := hC.trans hc_w38
    have hK2 := hK2.trans hc_w38
    have hK34 := hK34.trans hc_w38
    have hz_w38 := hc_w38.size
    refine WL.op (by decide) (R.move rfl) ?_
    refine WL.op (by decide) (R.extract rfl rfl) ?_
    refine WL.op (by decide) (R.extract rfl rfl) ?_
    refine WL.eff rfl (OP.allocM (by decide) ?_)
    intro w39 hc_w39 hs_w39 hB11
    obtain ⟨b11, he_b11⟩ : ∃ b, b = w38.heap.size := ⟨_, rfl⟩
    rw [← he_b11] at hB11 ⊢
    have hB5 := hc_w39.at hB5 (fun e => e)
    have hB9 := hc_w39.at hB9 (fun e => e)
    have hC := hC.trans hc_w39
    have hK2 := hK2.trans hc_w39
    have hK34 := hK34.trans hc_w39
    have hz_w39 := hc_w39.size
    refine WL.eff rfl (OP.storeM rfl rfl hB11 ?_)
    intro w40 hc_w40 hs_w40 hB11
    have hB5 := hc_w40.at hB5 (fun e => by omega)
    have hB9 := hc_w40.at hB9 (fun e => by omega)
    have hC := hC.thenB hc_w40 (by omega)
    have hK2 := hK2.thenB hc_w40 (by omega)
    have hK34 := hK34.thenB hc_w40 (by omega)
    refine WL.op (by decide) (R.assign rfl) ?_
    refine WL.next ?_
    refine CW.rseq ?_
    refine WL.op (by decide) (R.move rfl) ?_
    refine WL.op (by decide) (R.eql rfl rfl (decide_eq_true (rfl))) ?_
    refine WL.op (by decide) (R.move rfl) ?_
    refine WL.gop (by decide) rfl rfl rfl (R.move rfl) ?_
    refine WL.gop (by decide) rfl rfl rfl (R.eql rfl rfl (decide_eq_true (rfl))) ?_
    refine WL.op (by decide) (R.pickT rfl rfl) ?_
    refine WL.op (by decide) (R.assign rfl) ?_
    refine WL.next ?_
    refine CW.ret ?_
    exact EW.ret1 (.inl rfl) rfl rfl ⟨rfl, hC⟩
end Go.Proofs.YthcpjcgjmdfpjaaDoor

namespace Go.Proofs.YthcpjcgjmdfpjaaDoor
open Go Go.ChangeShapes Go.WideShapes Go.ChangeAt Go.RowKit
set_option maxRecDepth 100000

theorem msgHeads_lifted (os : Os) (started : os.Started) (H : Type) (enc : TypeId × Value → H) :
    ReturnsInHanded {} Tryd.checked os 18 .any (fun w args => (Rows.msgHeadsSpec.pre enc Tryd.prog Tryd.f18 [] false w args ∧ laidMetH Tryd.prog laidL w) ∧ sizedMet enc Tryd.prog Tryd.f18 (OpenSpec.ofChange Rows.msgHeadsSpec) false w args)
      (Rows.msgHeadsSpec.post enc Tryd.prog Tryd.f18 false true false false) := by
  refine law_lifted (s := Rows.msgHeadsSpec) started Tryd.func18 (by kernel_rfl) rfl (by kernel_rfl) (by kernel_rfl) ?_ ?_
    (ChangeSpec.witness_shaped (enc := enc) (C := Tryd.checked) (os := os) (X := fun w _ => laidMetH Tryd.prog laidL w) false (World.laidAll Tryd.prog os laidL) #[.int .i64 0, .int .i64 0] 8 (World.laidAll_os _ _ _)
      (World.shaped_of_ZipB (by kernel_rfl) (by kernel_rfl)) (by kernel_rfl) (by kernel_rfl) (by kernel_rfl)
      (by rw [MakeChecks.laidMetH_plain _ _ _ (by kernel_rfl)]; exact laidMet_laidAll _ (by kernel_rfl) (by kernel_rfl))) ?_
  · intro ds hl
    rw [show Tryd.f18.params.size = 2 by rw [Tryd.params18]; rfl] at hl
    obtain ⟨d0, d1, rfl⟩ := list2 hl
    rfl
  · intro W vs ds ps h
    exact trodAll_len h
  intro W base args ds p hval hA hlt hw hG
  rw [Tryd.params18] at hA hval hw
  obtain ⟨v0, v1, d0, d1, p0, p1, rfl, rfl, rfl, h0, h1⟩ := trodAll_two hA
  obtain ⟨n, rfl, rfl, rfl, _⟩ := open_int Tryd.underlying3 (hval 0 3 v0 rfl rfl) h0
  obtain ⟨m, rfl, rfl, rfl, _⟩ := open_int Tryd.underlying3 (hval 1 3 v1 rfl rfl) h1
  exact msgHeads_any n m W hG

theorem msgHeads_joined : joinedFacts Tryd.prog 18 Tryd.f18 Rows.msgHeadsSpec Rows.msgHeadsRow = true :=
  joined_of seat_mayEnter seat_lifts seat_make rfl rfl rfl rfl (by kernel_rfl) (by kernel_rfl) (by kernel_rfl) (by kernel_rfl) (by kernel_rfl) (by kernel_rfl) (by kernel_rfl) (by kernel_rfl) (by kernel_rfl) (by kernel_rfl) (by kernel_rfl) (by kernel_rfl) (by kernel_rfl) (by kernel_rfl) (by kernel_rfl) (by kernel_rfl) (by kernel_rfl) (by kernel_rfl) (by kernel_rfl) (by kernel_rfl) (by kernel_rfl) (by kernel_rfl) (by kernel_rfl) (by kernel_rfl) (by kernel_rfl) (by kernel_rfl) (by kernel_rfl) (by kernel_rfl)
theorem msgHeads_holds : Rows.MsgHeadsSaid :=
  OpenClaim.holds_of_wide 18 Tryd.f18 rfl rfl rfl rfl rfl rfl rfl ⟨rfl, rfl, rfl, rfl, rfl⟩ rfl rfl rfl rfl rfl (by kernel_rfl) Tryd.func18 msgHeads_joined
    (of_decide_eq_true (by kernel_rfl)) (by unfold Func.isWrapper; first | (rw [if_pos (by decide +kernel)]; kernel_rfl) | (rw [if_neg (by decide +kernel)]; exact ⟨rfl, rfl⟩))
    (fun os started H enc _ => msgHeads_lifted os started H enc)
theorem msgHeads_card : Rows.MsgHeadsCardSaid :=
  Claim7.holds_tied_plain_at .later [] [.data] true (true, "6afa14409c1fcf784e159d3dd9af9e0af6fc07a3d3e06aa2c8b4c577951ca517") false msgHeads_holds (fun _ h => by cases h) (by kernel_rfl) (fun _ h => by cases h) msgHeads_row_tie rfl ⟨rfl, rfl⟩ seat_main rfl
    (fun f fn hf hfn => by
      obtain rfl : f = 18 := Option.some.inj ((show Tryd.prog.funcNamed "nomenclator/nomenclatorlaw04.MsgHeads" = some 18 by kernel_rfl).symm.trans hf) |>.symm
      obtain rfl : fn = Tryd.f18 := (Option.some.inj (Tryd.func18.symm.trans hfn)).symm
      exact ⟨by kernel_rfl, fun j t ht => by
        rw [Tryd.params18] at ht
        have hm : t ∈ [3, 3] := by simpa using Array.mem_of_getElem? ht
        have hall : ([3, 3].all fun u => !Tryd.prog.wantsStandIn u) = true := by kernel_rfl
        exact (show Tryd.prog.wantsStandIn t = false by simpa using List.all_eq_true.1 hall t hm)⟩)
    (by kernel_rfl)
end Go.Proofs.YthcpjcgjmdfpjaaDoor
