/- TransSends: the statement TransSends is proved (its card); no conditions. Here: Send, Sends, TransSendsCard. -/
import Derived.Test.YthcpjcgjmdfpjaaDoorWordsTrans
import Derived.Test.YthcpjcgjmdfpjaaDoorCoreB
import Derived.Test.YthcpjcgjmdfpjaaDoorCoreE
namespace Go.Proofs.YthcpjcgjmdfpjaaDoor
open Go Go.RowKit
set_option maxRecDepth 100000
set_option maxHeartbeats 4000000

theorem send_any (T : Tr) (w0 : World) (h16 : T.to.length = 16) (hb : MBack ⟨T.id, false, false, !T.group, 0, T.qname, T.qtype, [], []⟩) :
    Calls Tryd.prog 31 #[T.val] w0 fun e w' => ∃ g c bs, e = .returned (.agg (sendC T (.slice (some ⟨g, 0, none⟩) bs.length c)).toArray) ∧ Src w' (some ⟨g, 0, none⟩) bs.length c bs ∧ decode bs = some ⟨T.id, false, false, !T.group, 0, T.qname, T.qtype, [], []⟩ ∧ bs.length ≤ 1000000000 ∧ g < w'.heap.size ∧ Chg (fun _ => False) w0 w' := by
  have hC := Chg.refl (fun _ => False) w0
  have hz16 : zero16.length = 16 := rfl
  refine calls_cw (args := [T.val]) Tryd.func31 rfl rfl ?_
  show CW _ _ _ 23 [(0, T.val)] w0
  refine CW.rseq ?_
  refine WL.eff rfl (OP.box (by decide) rfl ?_)
  intro w1 hc_w1 hs_w1 hB1
  obtain ⟨b1, he_b1⟩ : ∃ b, b = w0.heap.size := ⟨_, rfl⟩
  rw [← he_b1] at hB1 ⊢
  have hB1 : BT w1 b1 _ := hB1
  have hC := hC.trans hc_w1
  have hz_w1 := hc_w1.size
  refine WL.eff rfl (OP.allocD (by decide) ?_)
  intro w2 hc_w2 hs_w2 hB2
  obtain ⟨b2, he_b2⟩ : ∃ b, b = w1.heap.size := ⟨_, rfl⟩
  rw [← he_b2] at hB2 ⊢
  have hB1 := hc_w2.at hB1 (fun e => e)
  have hC := hC.trans hc_w2
  have hz_w2 := hc_w2.size
  refine WL.next ?_
  refine CW.rseq ?_
  refine WL.op (by decide) (FA29_4 rfl) ?_
  refine WL.op (by decide) (R.load Tryd.underlying3 rfl rfl (cell_at hB1 (Tr.at20 (by assumption)))) ?_
  refine WL.op (by decide) (FA29_7 rfl) ?_
  refine WL.op (by decide) (R.load Tryd.underlying4 rfl rfl (cell_at hB1 (Tr.at23 (by assumption)))) ?_
  refine WL.op (by decide) (R.not rfl) ?_
  refine WL.op (by decide) (FA29_0 rfl) ?_
  refine WL.op (by decide) (R.loadTQ rfl hB1) ?_
  refine WL.op (by decide) (R.build (parts := [(0, _), (3, _), (5, _)]) (vals := [(0, _), (3, _), (5, _)]) rfl (fun w => build33_035 _ _ _ _ w)) ?_
  refine WL.eff rfl (OP.allocM (by decide) ?_)
  intro w3 hc_w3 hs_w3 hB3
  obtain ⟨b3, he_b3⟩ : ∃ b, b = w2.heap.size := ⟨_, rfl⟩
  rw [← he_b3] at hB3 ⊢
  have hB1 := hc_w3.at hB1 (fun e => e)
  have hB2 := hc_w3.at hB2 (fun e => e)
  have hC := hC.trans hc_w3
  have hz_w3 := hc_w3.size
  refine WL.eff rfl (OP.storeM rfl rfl hB3 ?_)
  intro w4 hc_w4 hs_w4 hB3
  have hB1 := hc_w4.at hB1 (fun e => by omega)
  have hB2 := hc_w4.at hB2 (fun e => by omega)
  have hC := hC.thenB hc_w4 (by omega)
  refine WL.next ?_
  refine CW.seq ?_
  have hB1_d := hB1
  have hB3_d := hB3
  refine CW.draw (fun w => w.heap[b1]? = w4.heap[b1]? ∧ w.heap[b3]? = w4.heap[b3]?) (by kernel_rfl) ?_
  have hc_w5 : Chg (fun _ => False) w4 w4.drew := Chg.drew _ _
  obtain ⟨w5, he_w5⟩ : ∃ w, w = w4.drew := ⟨_, rfl⟩
  rw [← he_w5] at hc_w5 ⊢
  have hB1 := hc_w5.at hB1 (fun e => e)
  have hB2 := hc_w5.at hB2 (fun e => e)
  have hB3 := hc_w5.at hB3 (fun e => e)
  have hC := hC.trans hc_w5
  have hz_w5 := hc_w5.size
  refine AH.take 0 rfl (by kernel_rfl) (by kernel_rfl) (by kernel_rfl) (fun _ _ _ _ h => h) (⟨hB1.trans hB1_d.symm, hB3.trans hB3_d.symm⟩) (by decide) (fun w hS => FA29_1 rfl) ?_
  refine AH.take 1 rfl (by kernel_rfl) (by kernel_rfl) (by kernel_rfl) (fun _ _ _ _ h => h) (⟨hB1.trans hB1_d.symm, hB3.trans hB3_d.symm⟩) (by decide) (fun w hS => R.load Tryd.underlying3 rfl rfl (cell_at (hS.1.trans hB1_d) rfl)) ?_
  refine AH.take 2 rfl (by kernel_rfl) (by kernel_rfl) (by kernel_rfl) (fun _ _ _ _ h => h) (⟨hB1.trans hB1_d.symm, hB3.trans hB3_d.symm⟩) (by decide) (fun w hS => FA29_3 rfl) ?_
  refine AH.take 3 rfl (by kernel_rfl) (by kernel_rfl) (by kernel_rfl) (fun _ _ _ _ h => h) (⟨hB1.trans hB1_d.symm, hB3.trans hB3_d.symm⟩) (by decide) (fun w hS => R.loadTTo (by assumption) rfl (hS.1.trans hB1_d)) ?_
  refine AH.take 4 rfl (by kernel_rfl) (by kernel_rfl) (by kernel_rfl) (fun _ _ _ _ h => h) (⟨hB1.trans hB1_d.symm, hB3.trans hB3_d.symm⟩) (by decide) (fun w hS => FA29_5 rfl) ?_
  refine AH.take 5 rfl (by kernel_rfl) (by kernel_rfl) (by kernel_rfl) (fun _ _ _ _ h => h) (⟨hB1.trans hB1_d.symm, hB3.trans hB3_d.symm⟩) (by decide) (fun w hS => R.load Tryd.underlying3 rfl rfl (cell_at (hS.1.trans hB1_d) (Tr.at21 (by assumption)))) ?_
  refine AH.take 6 rfl (by kernel_rfl) (by kernel_rfl) (by kernel_rfl) (fun _ _ _ _ h => h) (⟨hB1.trans hB1_d.symm, hB3.trans hB3_d.symm⟩) (by decide) (fun w hS => FA29_6 rfl) ?_
  refine AH.take 7 rfl (by kernel_rfl) (by kernel_rfl) (by kernel_rfl) (fun _ _ _ _ h => h) (⟨hB1.trans hB1_d.symm, hB3.trans hB3_d.symm⟩) (by decide) (fun w hS => R.load Tryd.underlying4 rfl rfl (cell_at (hS.1.trans hB1_d) (Tr.at22 (by assumption)))) ?_
  refine AH.take 8 rfl (by kernel_rfl) (by kernel_rfl) (by kernel_rfl) (fun _ _ _ _ h => h) (⟨hB1.trans hB1_d.symm, hB3.trans hB3_d.symm⟩) (by decide) (fun w hS => R.loadM rfl (hS.2.trans hB3_d)) ?_
  refine AH.eff 9 (by kernel_rfl) rfl rfl (OP.call (by decide) Tryd.func24 (by kernel_rfl) (by kernel_rfl) rfl (encode_src _ _ _ ⟨_, _, rfl, (RSl.nil _), (RSl.nil _)⟩ (hb)) ?_)
  rintro ed w6 ⟨gE, ceE, bsE, rfl, hbsE, hBufE, hSrcE, hmoreE, hdecE, hblE, hgeE, hglE, hc_w6⟩
  refine ⟨_, rfl, ?_⟩
  have hB1 := hc_w6.at hB1 (fun e => e)
  have hB2 := hc_w6.at hB2 (fun e => e)
  have hB3 := hc_w6.at hB3 (fun e => e)
  have hC := hC.trans hc_w6
  have hz_w6 := hc_w6.size
  have hK6 : Chg (fun _ => False) w6 w6 := Chg.refl _ _
  refine ⟨⟨hB1.trans hB1_d.symm, hB3.trans hB3_d.symm⟩, ?_⟩
  refine AH.take 10 rfl (by kernel_rfl) (by kernel_rfl) (by kernel_rfl) (fun _ _ _ _ h => h) (⟨hB1.trans hB1_d.symm, hB3.trans hB3_d.symm⟩) (by decide) (fun w hS => R.build (parts := [(0, _), (1, _), (2, _), (3, _), (4, _)]) (vals := [(0, _), (1, _), (2, _), (3, _), (4, _)]) rfl (fun w => build60 h16 _ _ _ w)) ?_
  refine AH.eff 11 (by kernel_rfl) rfl rfl (OP.storeD (by assumption) (by first | rfl | assumption) rfl rfl hB2 ?_)
  intro w7 hc_w7 hs_w7 hB2
  have hB1 := hc_w7.at hB1 (fun e => by omega)
  have hB3 := hc_w7.at hB3 (fun e => by omega)
  have hC := hC.thenB hc_w7 (by omega)
  have hBufE := (hBufE.keep0 hK6).keepB hc_w7 (by omega)
  have hSrcE := (hSrcE.keep0 hK6).keepB hc_w7 (by omega)
  have hK7 : Chg (fun _ => False) w7 w7 := Chg.refl _ _
  refine ⟨⟨hB1.trans hB1_d.symm, hB3.trans hB3_d.symm⟩, ?_⟩
  refine AH.done (by kernel_rfl) ?_
  refine EW.next ?_
  refine CW.ret ?_
  exact EW.retC (.inl rfl) rfl rfl (cs := sendC T (.slice (some ⟨gE, 0, none⟩) bsE.length ceE)) Tryd.underlying60 rfl (by rw [sendC_len h16]; exact sz60) (fun j u hj => cell_at hB2 (by rw [List.getElem?_toArray]; exact hj)) ⟨gE, ceE, bsE, rfl, (hSrcE.keep0 hK7), hdecE, hblE, by omega, hC⟩
end Go.Proofs.YthcpjcgjmdfpjaaDoor

namespace Go.Proofs.YthcpjcgjmdfpjaaDoor
open Go Go.RowKit
set_option maxRecDepth 100000
set_option maxHeartbeats 4000000

theorem transSends_any (n : Int) (group stream : Bool) (w0 : World) (hG : Glob w0) : Calls Tryd.prog 10 #[.int .i64 n, .bool group, .bool stream] w0 fun e w' => e = .returned (.bool true) ∧ Chg (fun _ => False) w0 w' := by
  have hC := Chg.refl (fun _ => False) w0
  have hz16 : zero16.length = 16 := rfl
  refine calls_cw (args := [.int .i64 n, .bool group, .bool stream]) Tryd.func10 rfl rfl ?_
  show CW _ _ _ 87 [(0, .int .i64 n), (1, .bool group), (2, .bool stream)] w0
  refine CW.rseq ?_
  refine WL.op (by decide) (R.assign rfl) ?_
  refine WL.next ?_
  refine CW.seq ?_
  refine CW.rseq ?_
  refine WL.eff rfl (OP.call (by decide) Tryd.func21 (by kernel_rfl) (by kernel_rfl) rfl (fit13_any _ (hG.keep0 hC)) ?_)
  rintro ed w1 ⟨rfl, hc_w1⟩
  refine ⟨_, rfl, ?_⟩
  have hC := hC.trans hc_w1
  have hz_w1 := hc_w1.size
  refine WL.op (by decide) (R.not rfl) ?_
  refine WL.next ?_
  refine CW.condF rfl ?_
  refine CW.skip ?_
  refine EW.next ?_
  refine CW.rseq ?_
  refine WL.op (by decide) (R.move rfl) ?_
  refine WL.op (by decide) (R.move rfl) ?_
  refine WL.eff rfl (OP.call (by decide) Tryd.func22 (by kernel_rfl) (by kernel_rfl) rfl (build_any _ _ _) ?_)
  rintro ed w2 ⟨rfl, hc_w2⟩
  have hkT := buildT_ok n group
  have h16T : (buildT n group).to.length = 16 := rfl
  obtain ⟨T, hT0⟩ : ∃ T, T = buildT n group := ⟨_, rfl⟩
  rw [← hT0] at hkT h16T ⊢
  clear hT0
  refine ⟨_, rfl, ?_⟩
  have hC := hC.trans hc_w2
  have hz_w2 := hc_w2.size
  refine WL.eff rfl (OP.allocT (by decide) ?_)
  intro w3 hc_w3 hs_w3 hB7
  obtain ⟨b7, he_b7⟩ : ∃ b, b = w2.heap.size := ⟨_, rfl⟩
  rw [← he_b7] at hB7 ⊢
  have hC := hC.trans hc_w3
  have hz_w3 := hc_w3.size
  refine WL.eff rfl (OP.storeT (by assumption) (by first | rfl | assumption) rfl rfl hB7 ?_)
  intro w4 hc_w4 hs_w4 hB7
  have hC := hC.thenB hc_w4 (by omega)
  refine WL.next ?_
  refine CW.rseq ?_
  refine WL.op (by decide) (R.move rfl) ?_
  refine WL.op (by decide) (FA29_6 rfl) ?_
  refine WL.eff rfl (OP.storeStream (by assumption) rfl rfl hB7 ?_)
  intro w5 hc_w5 hs_w5 hB7
  have hC := hC.thenB hc_w5 (by omega)
  refine WL.next ?_
  refine CW.rseq ?_
  refine WL.op (by decide) (R.loadT (by assumption) rfl hB7) ?_
  refine WL.eff rfl (OP.call (by decide) Tryd.func31 (by kernel_rfl) (by kernel_rfl) rfl (send_any _ _ (by assumption) (hkT.back false false _)) ?_)
  rintro ed w6 ⟨gS, ceS, bsS, rfl, hSrcS, hdecS, hblS, hglS, hc_w6⟩
  refine ⟨_, rfl, ?_⟩
  have hB7 := hc_w6.at hB7 (fun e => e)
  have hC := hC.trans hc_w6
  have hz_w6 := hc_w6.size
  have hK6 : Chg (fun _ => False) w6 w6 := Chg.refl _ _
  refine WL.eff rfl (OP.allocD (by decide) ?_)
  intro w7 hc_w7 hs_w7 hB8
  obtain ⟨b8, he_b8⟩ : ∃ b, b = w6.heap.size := ⟨_, rfl⟩
  rw [← he_b8] at hB8 ⊢
  have hB7 := hc_w7.at hB7 (fun e => e)
  have hC := hC.trans hc_w7
  have hK6 := hK6.trans hc_w7
  have hz_w7 := hc_w7.size
  refine WL.eff rfl (OP.storeD (by assumption) (by first | rfl | assumption) rfl rfl hB8 ?_)
  intro w8 hc_w8 hs_w8 hB8
  have hB7 := hc_w8.at hB7 (fun e => by omega)
  have hC := hC.thenB hc_w8 (by omega)
  have hK6 := hK6.thenB hc_w8 (by omega)
  refine WL.next ?_
  refine CW.rseq ?_
  refine WL.op (by decide) (FA60_4 rfl) ?_
  refine WL.op (by decide) (R.load Tryd.underlying36 rfl rfl (cell_at hB8 (Send.at19 (by assumption)))) ?_
  refine WL.eff rfl (OP.call (by decide) Tryd.func27 (by kernel_rfl) (by kernel_rfl) rfl (decode_any _ _ _ _ _ (hSrcS.keep0 hK6) (by rintro _ _ ⟨⟩; omega) (by omega) (hG.keep0 hC)) ?_)
  rintro ed w9 ⟨hc_w9, hres⟩
  rw [hdecS] at hres
  obtain ⟨vD, rfl, vaD, vbD, rfl, hvaD, hvbD, hoaD, hobD⟩ := hres
  obtain ⟨AaD, caD, rfl, _⟩ := hvaD.form
  obtain ⟨AbD, cbD, rfl, _⟩ := hvbD.form
  have hlenD := len_dec hdecS
  refine ⟨_, rfl, ?_⟩
  have hB7 := hc_w9.at hB7 (fun e => e)
  have hB8 := hc_w9.at hB8 (fun e => e)
  have hC := hC.trans hc_w9
  have hK6 := hK6.trans hc_w9
  have hz_w9 := hc_w9.size
  have hK9 : Chg (fun _ => False) w9 w9 := Chg.refl _ _
  refine WL.op (by decide) (R.move rfl) ?_
  refine WL.op (by decide) (R.extract rfl rfl) ?_
  refine WL.op (by decide) (R.extract rfl rfl) ?_
  refine WL.eff rfl (OP.allocM (by decide) ?_)
  intro w10 hc_w10 hs_w10 hB9
  obtain ⟨b9, he_b9⟩ : ∃ b, b = w9.heap.size := ⟨_, rfl⟩
  rw [← he_b9] at hB9 ⊢
  have hB7 := hc_w10.at hB7 (fun e => e)
  have hB8 := hc_w10.at hB8 (fun e => e)
  have hC := hC.trans hc_w10
  have hK6 := hK6.trans hc_w10
  have hK9 := hK9.trans hc_w10
  have hz_w10 := hc_w10.size
  refine WL.eff rfl (OP.storeM rfl rfl hB9 ?_)
  intro w11 hc_w11 hs_w11 hB9
  have hB7 := hc_w11.at hB7 (fun e => by omega)
  have hB8 := hc_w11.at hB8 (fun e => by omega)
  have hC := hC.thenB hc_w11 (by omega)
  have hK6 := hK6.thenB hc_w11 (by omega)
  have hK9 := hK9.thenB hc_w11 (by omega)
  refine WL.op (by decide) (R.assign rfl) ?_
  refine WL.next ?_
  refine CW.rseq ?_
  refine WL.op (by decide) (R.move rfl) ?_
  refine WL.op (by decide) (R.eql rfl rfl (decide_eq_true (rfl))) ?_
  refine WL.op (by decide) (R.move rfl) ?_
  refine WL.gop (by decide) rfl rfl rfl (FA33_0 rfl) ?_
  refine WL.gop (by decide) rfl rfl rfl (R.load Tryd.underlying3 rfl rfl (cell_at hB9 rfl)) ?_
  refine WL.gop (by decide) rfl rfl rfl (FA29_4 rfl) ?_
  refine WL.gop (by decide) rfl rfl rfl (R.load Tryd.underlying3 rfl rfl (cell_at hB7 (Tr.at20 (by assumption)))) ?_
  refine WL.gop (by decide) rfl rfl rfl (R.eql rfl rfl (decide_eq_true (rfl))) ?_
  refine WL.op (by decide) (R.pickT rfl rfl) ?_
  refine WL.op (by decide) (R.move rfl) ?_
  refine WL.gop (by decide) rfl rfl rfl (FA33_5 rfl) ?_
  refine WL.gop (by decide) rfl rfl rfl (R.loadQ rfl hB9) ?_
  refine WL.gop (by decide) rfl rfl rfl (FA29_0 rfl) ?_
  refine WL.gop (by decide) rfl rfl rfl (R.loadTQ rfl hB7) ?_
  refine WL.gop (by decide) rfl rfl rfl (R.eql25 (c := true) rfl rfl (decide_eq_true ⟨rfl, rfl⟩)) ?_
  refine WL.op (by decide) (R.pickT rfl rfl) ?_
  refine WL.op (by decide) (R.move rfl) ?_
  refine WL.gop (by decide) rfl rfl rfl (FA33_1 rfl) ?_
  refine WL.gop (by decide) rfl rfl rfl (R.load (v := .bool false) Tryd.underlying4 rfl rfl (cell_at hB9 rfl)) ?_
  refine WL.gop (by decide) rfl rfl rfl (R.not rfl) ?_
  refine WL.op (by decide) (R.pickT rfl rfl) ?_
  refine WL.op (by decide) (R.move rfl) ?_
  refine WL.gop (by decide) rfl rfl rfl (FA33_3 rfl) ?_
  refine WL.gop (by decide) rfl rfl rfl (R.load Tryd.underlying4 rfl rfl (cell_at hB9 rfl)) ?_
  refine WL.gop (by decide) rfl rfl rfl (R.move rfl) ?_
  refine WL.gop (by decide) rfl rfl rfl (R.not rfl) ?_
  refine WL.gop (by decide) rfl rfl rfl (R.eqlBT rfl rfl (congrArg (fun b => !b) hkT.group)) ?_
  refine WL.op (by decide) (R.pickT rfl rfl) ?_
  refine WL.op (by decide) (R.move rfl) ?_
  refine WL.gop (by decide) rfl rfl rfl (FA33_6 rfl) ?_
  refine WL.gop (by decide) rfl rfl rfl (R.load Tryd.underlying31 rfl rfl (cell_at hB9 rfl)) ?_
  refine WL.gop (by decide) rfl rfl rfl (R.lenSlice rfl Tryd.underlying31 rfl) ?_
  refine WL.gop (by decide) rfl rfl rfl (R.eql rfl rfl (decide_eq_true (rfl))) ?_
  refine WL.op (by decide) (R.pickT rfl rfl) ?_
  refine WL.op (by decide) (R.move rfl) ?_
  refine WL.gop (by decide) rfl rfl rfl (FA60_1 rfl) ?_
  refine WL.gop (by decide) rfl rfl rfl (R.loadDTo (by assumption) rfl hB8) ?_
  refine WL.gop (by decide) rfl rfl rfl (FA29_3 rfl) ?_
  refine WL.gop (by decide) rfl rfl rfl (R.loadTTo (by assumption) rfl hB7) ?_
  refine WL.gop (by decide) rfl rfl rfl (R.eql27 h16T h16T rfl rfl (decide_eq_true rfl)) ?_
  refine WL.op (by decide) (R.pickT rfl rfl) ?_
  refine WL.op (by decide) (R.move rfl) ?_
  refine WL.gop (by decide) rfl rfl rfl (FA60_0 rfl) ?_
  refine WL.gop (by decide) rfl rfl rfl (R.load Tryd.underlying3 rfl rfl (cell_at hB8 rfl)) ?_
  refine WL.gop (by decide) rfl rfl rfl (FA29_1 rfl) ?_
  refine WL.gop (by decide) rfl rfl rfl (R.load Tryd.underlying3 rfl rfl (cell_at hB7 rfl)) ?_
  refine WL.gop (by decide) rfl rfl rfl (R.eql rfl rfl (decide_eq_true (rfl))) ?_
  refine WL.op (by decide) (R.pickT rfl rfl) ?_
  refine WL.op (by decide) (R.move rfl) ?_
  refine WL.gop (by decide) rfl rfl rfl (FA60_2 rfl) ?_
  refine WL.gop (by decide) rfl rfl rfl (R.load Tryd.underlying3 rfl rfl (cell_at hB8 (Send.at17 (by assumption)))) ?_
  refine WL.gop (by decide) rfl rfl rfl (FA29_5 rfl) ?_
  refine WL.gop (by decide) rfl rfl rfl (R.load Tryd.underlying3 rfl rfl (cell_at hB7 (Tr.at21 (by assumption)))) ?_
  refine WL.gop (by decide) rfl rfl rfl (R.eql rfl rfl (decide_eq_true (rfl))) ?_
  refine WL.op (by decide) (R.pickT rfl rfl) ?_
  refine WL.op (by decide) (R.move rfl) ?_
  refine WL.gop (by decide) rfl rfl rfl (FA60_3 rfl) ?_
  refine WL.gop (by decide) rfl rfl rfl (R.load Tryd.underlying4 rfl rfl (cell_at hB8 (Send.at18 (by assumption)))) ?_
  refine WL.gop (by decide) rfl rfl rfl (R.move rfl) ?_
  refine WL.gop (by decide) rfl rfl rfl (R.eqlBT rfl rfl rfl) ?_
  refine WL.op (by decide) (R.pickT rfl rfl) ?_
  refine WL.op (by decide) (R.assign rfl) ?_
  refine WL.next ?_
  refine CW.ret ?_
  exact EW.ret1 (.inl rfl) rfl rfl ⟨rfl, hC⟩
end Go.Proofs.YthcpjcgjmdfpjaaDoor

namespace Go.Proofs.YthcpjcgjmdfpjaaDoor
open Go Go.ChangeShapes Go.WideShapes Go.ChangeAt Go.RowKit
set_option maxRecDepth 100000

theorem transSends_lifted (os : Os) (started : os.Started) (H : Type) (enc : TypeId × Value → H) :
    ReturnsInHanded {} Tryd.checked os 10 .any (fun w args => (Rows.transSendsSpec.pre enc Tryd.prog Tryd.f10 [] false w args ∧ laidMetH Tryd.prog laidL w) ∧ sizedMet enc Tryd.prog Tryd.f10 (OpenSpec.ofChange Rows.transSendsSpec) false w args)
      (Rows.transSendsSpec.post enc Tryd.prog Tryd.f10 false true false false) := by
  refine law_lifted (s := Rows.transSendsSpec) started Tryd.func10 (by kernel_rfl) rfl (by kernel_rfl) (by kernel_rfl) ?_ ?_
    (ChangeSpec.witness_shaped (enc := enc) (C := Tryd.checked) (os := os) (X := fun w _ => laidMetH Tryd.prog laidL w) false (World.laidAll Tryd.prog os laidL) #[.int .i64 0, .bool false, .bool false] 8 (World.laidAll_os _ _ _)
      (World.shaped_of_ZipB (by kernel_rfl) (by kernel_rfl)) (by kernel_rfl) (by kernel_rfl) (by kernel_rfl)
      (by rw [MakeChecks.laidMetH_plain _ _ _ (by kernel_rfl)]; exact laidMet_laidAll _ (by kernel_rfl) (by kernel_rfl))) ?_
  · intro ds hl
    rw [show Tryd.f10.params.size = 3 by rw [Tryd.params10]; rfl] at hl
    obtain ⟨d0, d1, d2, rfl⟩ := list3 hl
    rfl
  · intro W vs ds ps h
    exact trodAll_len h
  intro W base args ds p hval hA hlt hw hG
  rw [Tryd.params10] at hA hval hw
  obtain ⟨v0, v1, v2, d0, d1, d2, p0, p1, p2, rfl, rfl, rfl, h0, h1, h2⟩ := trodAll_three hA
  obtain ⟨n, rfl, rfl, rfl, _⟩ := open_int Tryd.underlying3 (hval 0 3 v0 rfl rfl) h0
  obtain ⟨b1, rfl, rfl, rfl⟩ := open_bool Tryd.underlying4 (hval 1 4 v1 rfl rfl) h1
  obtain ⟨b2, rfl, rfl, rfl⟩ := open_bool Tryd.underlying4 (hval 2 4 v2 rfl rfl) h2
  exact transSends_any n b1 b2 W hG

theorem transSends_joined : joinedFacts Tryd.prog 10 Tryd.f10 Rows.transSendsSpec Rows.transSendsRow = true :=
  joined_of seat_mayEnter seat_lifts seat_make rfl rfl rfl rfl (by kernel_rfl) (by kernel_rfl) (by kernel_rfl) (by kernel_rfl) (by kernel_rfl) (by kernel_rfl) (by kernel_rfl) (by kernel_rfl) (by kernel_rfl) (by kernel_rfl) (by kernel_rfl) (by kernel_rfl) (by kernel_rfl) (by kernel_rfl) (by kernel_rfl) (by kernel_rfl) (by kernel_rfl) (by kernel_rfl) (by kernel_rfl) (by kernel_rfl) (by kernel_rfl) (by kernel_rfl) (by kernel_rfl) (by kernel_rfl) (by kernel_rfl) (by kernel_rfl) (by kernel_rfl) (by kernel_rfl)
theorem transSends_holds : Rows.TransSendsSaid :=
  OpenClaim.holds_of_wide 10 Tryd.f10 rfl rfl rfl rfl rfl rfl rfl ⟨rfl, rfl, rfl, rfl, rfl⟩ rfl rfl rfl rfl rfl (by kernel_rfl) Tryd.func10 transSends_joined
    (of_decide_eq_true (by kernel_rfl)) (by unfold Func.isWrapper; first | (rw [if_pos (by decide +kernel)]; kernel_rfl) | (rw [if_neg (by decide +kernel)]; exact ⟨rfl, rfl⟩))
    (fun os started H enc _ => transSends_lifted os started H enc)
theorem transSends_card : Rows.TransSendsCardSaid :=
  Claim7.holds_tied_plain_at .later [] [.data] true (true, "6afa14409c1fcf784e159d3dd9af9e0af6fc07a3d3e06aa2c8b4c577951ca517") false transSends_holds (fun _ h => by cases h) (by kernel_rfl) (fun _ h => by cases h) transSends_row_tie rfl ⟨rfl, rfl⟩ seat_main rfl
    (fun f fn hf hfn => by
      obtain rfl : f = 10 := Option.some.inj ((show Tryd.prog.funcNamed "nomenclator/nomenclatorlaw13.TransSends" = some 10 by kernel_rfl).symm.trans hf) |>.symm
      obtain rfl : fn = Tryd.f10 := (Option.some.inj (Tryd.func10.symm.trans hfn)).symm
      exact ⟨by kernel_rfl, fun j t ht => by
        rw [Tryd.params10] at ht
        have hm : t ∈ [3, 4, 4] := by simpa using Array.mem_of_getElem? ht
        have hall : ([3, 4, 4].all fun u => !Tryd.prog.wantsStandIn u) = true := by kernel_rfl
        exact (show Tryd.prog.wantsStandIn t = false by simpa using List.all_eq_true.1 hall t hm)⟩)
    (by kernel_rfl)
end Go.Proofs.YthcpjcgjmdfpjaaDoor
