/- LlmnrTypes: the statement LlmnrTypes is proved (its card); no conditions. Here: LTypes, LlmnrTypesCard. -/
import Derived.Test.YthcpjcgjmdfpjaaDoorWordsLlmnr
import Derived.Test.YthcpjcgjmdfpjaaDoorCoreB
import Derived.Test.YthcpjcgjmdfpjaaDoorCoreE
namespace Go.Proofs.YthcpjcgjmdfpjaaDoor
open Go Go.RowKit
set_option maxRecDepth 100000
set_option maxHeartbeats 4000000

theorem two_16 {a b : List UInt8} (ha : a.length = 16) (hb : b.length = 16) : ∀ s ∈ ([⟨a, false, false⟩, ⟨b, false, false⟩] : List LocalV), s.addr.length = 16 := by
  intro s hs
  rcases List.mem_cons.1 hs with rfl | hs
  · exact ha
  · rw [List.mem_singleton.1 hs]; exact hb
theorem kind_ok {t : Int} {six : Bool} (h : t = (if six then 28 else 1)) : 1 ≤ t ∧ t ≤ 65535 := by
  cases six
  · have : t = 1 := by simpa using h
    omega
  · have : t = 28 := by simpa using h
    omega
theorem build74_2 {a b : List UInt8} (h : a.length = 16) (h2 : b.length = 16) (w : World) : (Instr.build 74 #[(0, .agg (a.map u8v).toArray), (1, .agg (b.map u8v).toArray)]).run Tryd.prog w = .ok (.agg ((a ++ b).map u8v).toArray) w := by
  obtain ⟨a0, a1, a2, a3, a4, a5, a6, a7, a8, a9, b0, b1, b2, b3, b4, b5, rfl⟩ := list16 h
  obtain ⟨c0, c1, c2, c3, c4, c5, c6, c7, c8, c9, d0, d1, d2, d3, d4, d5, rfl⟩ := list16 h2
  kernel_rfl
theorem R.elem74 {l : Env} {w : World} {x y : Operand} {a b : List UInt8} {k : IntKind} {j : Nat} {s : LocalV} (h : a.length = 16) (h2 : b.length = 16) (hs : ([⟨a, false, false⟩, ⟨b, false, false⟩] : List LocalV)[j]? = some s) (hx : ev l x = some (.agg ((a ++ b).map u8v).toArray)) (hy : ev l y = some (.int k (j : Int))) (hj : j < 2) : Runs Tryd.prog l (.index 74 x y) w (.agg (s.addr.map u8v).toArray) w := by
  have key := R.indexN (w := w) (n := 2) (i := j) Tryd.underlying74 Tryd.underlying27 rfl sz27 hx hy rfl hj
  have e : (((a ++ b).map u8v).toArray).extract (j * 16) (j * 16 + 16) = (s.addr.map u8v).toArray := by
    apply Array.ext'
    simp only [Array.toList_extract, List.extract]
    match j, hj, hs with
    | 0, _, hs =>
      obtain rfl : (⟨a, false, false⟩ : LocalV) = s := by simpa using hs
      simp [h]
    | 1, _, hs =>
      obtain rfl : (⟨b, false, false⟩ : LocalV) = s := by simpa using hs
      simp [h, h2, List.take_of_length_le]
  rw [e] at key
  exact key
theorem llmnrTypes_any (a b : List UInt8) (six : Bool) (w0 : World) (h16a : a.length = 16) (h16b : b.length = 16) (hG : Glob w0) : Calls Tryd.prog 13 #[.agg (a.map u8v).toArray, .agg (b.map u8v).toArray, .bool six] w0 fun e w' => e = .returned (.bool true) ∧ Chg (fun _ => False) w0 w' := by
  have hC := Chg.refl (fun _ => False) w0
  have hz16 : zero16.length = 16 := rfl
  refine calls_cw (args := [.agg (a.map u8v).toArray, .agg (b.map u8v).toArray, .bool six]) Tryd.func13 rfl rfl ?_
  show CW _ _ _ 82 [(0, .agg (a.map u8v).toArray), (1, .agg (b.map u8v).toArray), (2, .bool six)] w0
  refine CW.rseq ?_
  refine WL.eff rfl (OP.box (by decide) rfl ?_)
  intro w1 hc_w1 hs_w1 hB3
  obtain ⟨b3, he_b3⟩ : ∃ b, b = w0.heap.size := ⟨_, rfl⟩
  rw [← he_b3] at hB3 ⊢
  have hB3 : BA w1 b3 _ := hB3
  have hC := hC.trans hc_w1
  have hz_w1 := hc_w1.size
  refine WL.eff rfl (OP.box (by decide) rfl ?_)
  intro w2 hc_w2 hs_w2 hB4
  obtain ⟨b4, he_b4⟩ : ∃ b, b = w1.heap.size := ⟨_, rfl⟩
  rw [← he_b4] at hB4 ⊢
  have hB4 : BA w2 b4 _ := hB4
  have hB3 := hc_w2.at hB3 (fun e => e)
  have hC := hC.trans hc_w2
  have hz_w2 := hc_w2.size
  refine WL.op (by decide) (R.assign rfl) ?_
  refine WL.next ?_
  refine CW.seq ?_
  refine CW.rseq ?_
  refine WL.eff rfl (OP.call (by decide) Tryd.func32 (by kernel_rfl) (by kernel_rfl) rfl (fit14_any _ (hG.keep0 hC)) ?_)
  rintro ed w3 ⟨rfl, hc_w3⟩
  refine ⟨_, rfl, ?_⟩
  have hB3 := hc_w3.at hB3 (fun e => e)
  have hB4 := hc_w3.at hB4 (fun e => e)
  have hC := hC.trans hc_w3
  have hz_w3 := hc_w3.size
  refine WL.op (by decide) (R.not rfl) ?_
  refine WL.next ?_
  refine CW.condF rfl ?_
  refine CW.skip ?_
  refine EW.next ?_
  refine CW.rseq ?_
  refine WL.op (by decide) (R.assign rfl) ?_
  refine WL.next ?_
  refine CW.cut (fun le w' => w3 = w' ∧ ∃ t, t = (if six then 28 else 1) ∧ le = [(2, .bool six), (3, .pointer (some ⟨b3, 0, none⟩)), (4, .pointer (some ⟨b4, 0, none⟩)), (7, .int .i64 t)]) ?_ ?_
  ·
    refine CW.rseq ?_
    refine WL.op (by decide) (R.move rfl) ?_
    cases hsix : six
    · skip
      skip
      refine WL.next ?_
      refine CW.condF rfl ?_
      refine CW.skip ?_
      exact EW.cutK [2, 3, 4, 7] ⟨rfl, _, rfl, rfl⟩
    · skip
      skip
      refine WL.next ?_
      refine CW.condT rfl ?_
      refine CW.region ?_
      refine WL.op (by decide) (R.assign rfl) ?_
      refine WL.nil ?_
      exact EW.cutK [2, 3, 4, 7] ⟨rfl, _, rfl, rfl⟩
  · rintro le w' ⟨rfl, t, ht, rfl⟩
    refine CW.rseq ?_
    refine WL.op (by decide) (R.move rfl) ?_
    refine WL.op (by decide) (R.build (parts := [(0, _), (1, _)]) (vals := [(0, _), (1, _)]) rfl (fun w => build25_2 [104] _ w)) ?_
    refine WL.op (by decide) (R.build (parts := [(0, _), (5, _)]) (vals := [(0, _), (5, _)]) rfl (fun w => build33_05 1 [104] _ w)) ?_
    refine WL.eff rfl (OP.call (by decide) Tryd.func24 (by kernel_rfl) (by kernel_rfl) rfl (encode_src _ _ _ ⟨_, _, rfl, (RSl.nil _), (RSl.nil _)⟩ (MBack.quest (by decide) (kind_ok ht) (by kernel_rfl) (by decide))) ?_)
    rintro ed w4 ⟨gE, ceE, bsE, rfl, hbsE, hBufE, hSrcE, hmoreE, hdecE, hblE, hgeE, hglE, hc_w4⟩
    refine ⟨_, rfl, ?_⟩
    have hB3 := hc_w4.at hB3 (fun e => e)
    have hB4 := hc_w4.at hB4 (fun e => e)
    have hC := hC.trans hc_w4
    have hz_w4 := hc_w4.size
    have hK4 : Chg (fun _ => False) w4 w4 := Chg.refl _ _
    refine WL.op (by decide) (R.assign rfl) ?_
    refine WL.next ?_
    refine CW.rseq ?_
    refine WL.op (by decide) (R.loadA (by assumption) rfl hB3) ?_
    refine WL.op (by decide) (R.build (parts := [(0, _)]) (vals := [(0, _)]) rfl (fun w => build70_0 h16a w)) ?_
    refine WL.op (by decide) (R.loadA (by assumption) rfl hB4) ?_
    refine WL.op (by decide) (R.build (parts := [(0, _)]) (vals := [(0, _)]) rfl (fun w => build70_0 h16b w)) ?_
    refine WL.eff rfl (OP.buildSlice (parts := [(0, _), (1, _)]) (vals := [(0, _), (1, _)]) (ty := 70) (by decide) rfl (fun w => slice63_2 (s := ⟨a, false, false⟩) (t := ⟨b, false, false⟩) h16a h16b w) ?_)
    intro w5 hc_w5 hs_w5 hN
    have hB3 := hc_w5.at hB3 (fun e => e)
    have hB4 := hc_w5.at hB4 (fun e => e)
    have hC := hC.trans hc_w5
    have hK4 := hK4.trans hc_w5
    have hz_w5 := hc_w5.size
    have hSl := Sl.two (s := ⟨a, false, false⟩) (t := ⟨b, false, false⟩) h16a hN
    have hK5 : Chg (fun _ => False) w5 w5 := Chg.refl _ _
    refine WL.op (by decide) (R.move rfl) ?_
    refine WL.eff rfl (OP.call (by decide) Tryd.func34 (by kernel_rfl) (by kernel_rfl) rfl (answer_any [104] _ _ _ [⟨a, false, false⟩, ⟨b, false, false⟩] _ _ _ _ _ _ (hSl.keep0 hK5) (two_16 h16a h16b) (by simp) (hSrcE.keep0 hK4) (by rintro _ _ ⟨⟩; omega) hblE hdecE (MBack.quest (by decide) (kind_ok ht) (by kernel_rfl) (by decide)) (hG.keep0 hC)) ?_)
    rintro ed w6 ⟨hc_w6, hres⟩
    obtain ⟨gA, ceA, bsA, rfl, hSrcA, hmoreA, hdecA, hblA, hgeA, hglA⟩ := hres.isYes rfl
    refine ⟨_, rfl, ?_⟩
    have hB3 := hc_w6.at hB3 (fun e => e)
    have hB4 := hc_w6.at hB4 (fun e => e)
    have hC := hC.trans hc_w6
    have hK4 := hK4.trans hc_w6
    have hK5 := hK5.trans hc_w6
    have hz_w6 := hc_w6.size
    have hK6 : Chg (fun _ => False) w6 w6 := Chg.refl _ _
    refine WL.op (by decide) (R.move rfl) ?_
    refine WL.op (by decide) (R.extract rfl rfl) ?_
    refine WL.op (by decide) (R.extract rfl rfl) ?_
    refine WL.op (by decide) (R.assign rfl) ?_
    refine WL.op (by decide) (R.assign rfl) ?_
    refine WL.next ?_
    refine CW.rseq ?_
    refine WL.op (by decide) (R.move rfl) ?_
    refine WL.eff rfl (OP.call (by decide) Tryd.func27 (by kernel_rfl) (by kernel_rfl) rfl (decode_any _ _ _ _ _ (hSrcA.keep0 hK6) (by rintro _ _ ⟨⟩; omega) (by omega) (hG.keep0 hC)) ?_)
    rintro ed w7 ⟨hc_w7, hres⟩
    rw [hdecA] at hres
    obtain ⟨vD, rfl, vaD, vbD, rfl, hvaD, hvbD, hoaD, hobD⟩ := hres
    obtain ⟨AaD, caD, rfl, _⟩ := hvaD.form
    obtain ⟨AbD, cbD, rfl, _⟩ := hvbD.form
    have hlenD := len_dec hdecA
    refine ⟨_, rfl, ?_⟩
    have hB3 := hc_w7.at hB3 (fun e => e)
    have hB4 := hc_w7.at hB4 (fun e => e)
    have hC := hC.trans hc_w7
    have hK4 := hK4.trans hc_w7
    have hK5 := hK5.trans hc_w7
    have hK6 := hK6.trans hc_w7
    have hz_w7 := hc_w7.size
    have hK7 : Chg (fun _ => False) w7 w7 := Chg.refl _ _
    refine WL.op (by decide) (R.move rfl) ?_
    refine WL.op (by decide) (R.extract rfl rfl) ?_
    refine WL.op (by decide) (R.extract rfl rfl) ?_
    refine WL.eff rfl (OP.allocM (by decide) ?_)
    intro w8 hc_w8 hs_w8 hB11
    obtain ⟨b11, he_b11⟩ : ∃ b, b = w7.heap.size := ⟨_, rfl⟩
    rw [← he_b11] at hB11 ⊢
    have hB3 := hc_w8.at hB3 (fun e => e)
    have hB4 := hc_w8.at hB4 (fun e => e)
    have hC := hC.trans hc_w8
    have hK4 := hK4.trans hc_w8
    have hK5 := hK5.trans hc_w8
    have hK6 := hK6.trans hc_w8
    have hK7 := hK7.trans hc_w8
    have hz_w8 := hc_w8.size
    refine WL.eff rfl (OP.storeM rfl rfl hB11 ?_)
    intro w9 hc_w9 hs_w9 hB11
    have hB3 := hc_w9.at hB3 (fun e => by omega)
    have hB4 := hc_w9.at hB4 (fun e => by omega)
    have hC := hC.thenB hc_w9 (by omega)
    have hK4 := hK4.thenB hc_w9 (by omega)
    have hK5 := hK5.thenB hc_w9 (by omega)
    have hK6 := hK6.thenB hc_w9 (by omega)
    have hK7 := hK7.thenB hc_w9 (by omega)
    refine WL.op (by decide) (R.assign rfl) ?_
    refine WL.next ?_
    refine CW.rseq ?_
    refine WL.op (by decide) (R.assign rfl) ?_
    refine WL.next ?_
    refine CW.seq ?_
    refine CW.rseq ?_
    refine WL.op (by decide) (R.loadA (by assumption) rfl hB3) ?_
    refine WL.op (by decide) (R.loadA (by assumption) rfl hB4) ?_
    refine WL.op (by decide) (R.build (parts := [(0, _), (1, _)]) (vals := [(0, _), (1, _)]) rfl (fun w => build74_2 h16a h16b w)) ?_
    refine WL.op (by decide) (R.move rfl) ?_
    refine WL.next ?_
    refine CW.block ?_
    refine CW.loopK [2, 10, 11, 12, 13, 40, 41] (fun k le wr => Chg (fun _ => False) w0 wr ∧ Chg (fun _ => False) w7 wr ∧ ∃ (j : Nat) (jj : Int), j + k = 2 ∧ jj = (j : Int) ∧ le = [(2, .bool six), (10, .bool true), (11, .pointer (some ⟨b11, 0, none⟩)), (12, .int .i64 0), (13, .int .i64 ((ansL [104] t (([⟨a, false, false⟩, ⟨b, false, false⟩] : List LocalV).take j)).length : Nat)), (40, .agg ((a ++ b).map u8v).toArray), (41, .int .i64 jj)] ∧ BM wr b11 (ansM [104] ⟨1, false, false, false, 0, [104], t, [], []⟩ [⟨a, false, false⟩, ⟨b, false, false⟩]) (.slice AaD (ansM [104] ⟨1, false, false, false, 0, [104], t, [], []⟩ [⟨a, false, false⟩, ⟨b, false, false⟩]).ans.length caD) (.slice AbD (ansM [104] ⟨1, false, false, false, 0, [104], t, [], []⟩ [⟨a, false, false⟩, ⟨b, false, false⟩]).auth.length cbD) ∧ b11 < wr.heap.size) (2) ?_ ?_
    · exact ⟨hC, hK7, 0, 0, rfl, rfl, rfl, hB11, by omega⟩
    · rintro k le wr ⟨hC, hK7, j, jj, hk, rfl, rfl, hB11, hb11⟩
      have hll := ansL_len2 [104] t [⟨a, false, false⟩, ⟨b, false, false⟩] j
      have hz_hC := hC.size
      have hz_hK7 := hK7.size
      refine CW.rseq ?_
      refine WL.lssS (by decide) rfl rfl (fun h1 => ?_) (fun h1 => ?_)
      · skip
        refine WL.next ?_
        refine CW.seq ?_
        refine CW.condT rfl ?_
        refine CW.skip ?_
        refine EW.next ?_
        refine CW.seq ?_
        refine CW.block ?_
        refine CW.rseq ?_
        obtain ⟨s, hs⟩ : ∃ s, ([⟨a, false, false⟩, ⟨b, false, false⟩] : List LocalV)[j]? = some s := ⟨([⟨a, false, false⟩, ⟨b, false, false⟩] : List LocalV)[j]'(by simp; omega), List.getElem?_eq_getElem _⟩
        have hs16 := two_16 h16a h16b s (List.mem_of_getElem? hs)
        refine WL.op (by decide) (R.elem74 h16a h16b hs rfl rfl (by omega)) ?_
        refine WL.eff rfl (OP.allocA (by decide) ?_)
        intro w10 hc_w10 hs_w10 hB15
        obtain ⟨b15, he_b15⟩ : ∃ b, b = wr.heap.size := ⟨_, rfl⟩
        rw [← he_b15] at hB15 ⊢
        have hB11 := hc_w10.at hB11 (fun e => e)
        have hC := hC.trans hc_w10
        have hK7 := hK7.trans hc_w10
        have hz_w10 := hc_w10.size
        refine WL.eff rfl (OP.storeA (by assumption) (by first | rfl | assumption) rfl rfl hB15 ?_)
        intro w11 hc_w11 hs_w11 hB15
        have hB11 := hc_w11.at hB11 (fun e => by omega)
        have hC := hC.thenB hc_w11 (by omega)
        have hK7 := hK7.thenB hc_w11 (by omega)
        refine WL.next ?_
        refine CW.rseq ?_
        refine WL.op (by decide) (R.loadA (by assumption) rfl hB15) ?_
        refine WL.eff rfl (OP.call (by decide) Tryd.func35 (by kernel_rfl) (by kernel_rfl) rfl (is4_any _ _ (by assumption)) ?_)
        rintro ed w12 ⟨rfl, hc_w12⟩
        have hB11 := hc_w12.at hB11 (fun e => e)
        have hB15 := hc_w12.at hB15 (fun e => e)
        have hC := hC.trans hc_w12
        have hK7 := hK7.trans hc_w12
        have hz_w12 := hc_w12.size
        cases h4 : is4 s.addr
        · skip
          refine ⟨_, rfl, ?_⟩
          refine WL.op (by decide) (R.move rfl) ?_
          cases hsix : six
          · skip
            skip
            refine WL.op (by decide) (R.neqB (c := false) rfl rfl rfl) ?_
            have hfit : fits t s = false := by subst ht; simp [fits, hsix, h4]
            refine WL.next ?_
            refine CW.condF rfl ?_
            refine CW.skip ?_
            refine EW.inNormal ?_
            refine EW.next ?_
            refine CW.region ?_
            refine WL.op (by decide) (R.add rfl rfl (by omega)) ?_
            refine WL.op (by decide) (R.move rfl) ?_
            refine WL.nil ?_
            exact EW.roundK [2, 10, 11, 12, 13, 40, 41] (k - 1) (by omega) ⟨hC, hK7, j + 1, (j : Int) + 1, by omega, by omega, by rw [ansL_same hs hfit]; rfl, hB11, by omega⟩
          · skip
            skip
            refine WL.op (by decide) (R.neqB (c := true) rfl rfl rfl) ?_
            have hfit : fits t s = true := by subst ht; simp [fits, hsix, h4]
            refine WL.next ?_
            refine CW.condT rfl ?_
            refine CW.seq ?_
            refine CW.seq ?_
            have hZ : Chg (fun _ => False) w12 w12 := Chg.refl _ _
            obtain ⟨hr16, _, gr, orr, hAr, hcr⟩ := (hvaD.keep0 hK7).at (ansL_at (own := [104]) hs hfit)
            subst hAr
            have hlt := (List.getElem?_eq_some_iff.1 (ansL_at (own := [104]) hs hfit)).1
            have hnl : (ansM [104] ⟨1, false, false, false, 0, [104], t, [], []⟩ [⟨a, false, false⟩, ⟨b, false, false⟩]).ans.length = (ansL [104] t [⟨a, false, false⟩, ⟨b, false, false⟩]).length := rfl
            have hB11_d := hB11
            have hB15_d := hB15
            refine CW.draw (fun w => w.heap[b11]? = w12.heap[b11]? ∧ w.heap[b15]? = w12.heap[b15]? ∧ (∀ i u, (recL [104] t s).cells[i]? = some u → w.cell? ⟨gr, orr + (ansL [104] t (([⟨a, false, false⟩, ⟨b, false, false⟩] : List LocalV).take j)).length * 21 + i, none⟩ = some u)) (by kernel_rfl) ?_
            have hc_w13 : Chg (fun _ => False) w12 w12.drew := Chg.drew _ _
            obtain ⟨w13, he_w13⟩ : ∃ w, w = w12.drew := ⟨_, rfl⟩
            rw [← he_w13] at hc_w13 ⊢
            have hB11 := hc_w13.at hB11 (fun e => e)
            have hB15 := hc_w13.at hB15 (fun e => e)
            have hC := hC.trans hc_w13
            have hK7 := hK7.trans hc_w13
            have hZ := hZ.trans hc_w13
            have hz_w13 := hc_w13.size
            refine AH.take 0 rfl (by kernel_rfl) (by kernel_rfl) (by kernel_rfl) (fun _ _ _ _ h => h) (⟨hB11.trans hB11_d.symm, hB15.trans hB15_d.symm, (fun i u hu => cell_chg hZ (hcr i u hu) (fun e => e))⟩) (by decide) (fun w hS => R.move rfl) ?_
            refine AH.take 1 rfl (by kernel_rfl) (by kernel_rfl) (by kernel_rfl) (fun _ _ _ _ h => h) (⟨hB11.trans hB11_d.symm, hB15.trans hB15_d.symm, (fun i u hu => cell_chg hZ (hcr i u hu) (fun e => e))⟩) (by decide) (fun w hS => FA33_6 rfl) ?_
            refine AH.take 2 rfl (by kernel_rfl) (by kernel_rfl) (by kernel_rfl) (fun _ _ _ _ h => h) (⟨hB11.trans hB11_d.symm, hB15.trans hB15_d.symm, (fun i u hu => cell_chg hZ (hcr i u hu) (fun e => e))⟩) (by decide) (fun w hS => R.load Tryd.underlying31 rfl rfl (cell_at (hS.1.trans hB11_d) rfl)) ?_
            refine AH.take 3 rfl (by kernel_rfl) (by kernel_rfl) (by kernel_rfl) (fun _ _ _ _ h => h) (⟨hB11.trans hB11_d.symm, hB15.trans hB15_d.symm, (fun i u hu => cell_chg hZ (hcr i u hu) (fun e => e))⟩) (by decide) (fun w hS => R.lenSlice rfl Tryd.underlying31 rfl) ?_
            refine AH.take 4 rfl (by kernel_rfl) (by kernel_rfl) (by kernel_rfl) (fun _ _ _ _ h => h) (⟨hB11.trans hB11_d.symm, hB15.trans hB15_d.symm, (fun i u hu => cell_chg hZ (hcr i u hu) (fun e => e))⟩) (by decide) (fun w hS => R.geq rfl rfl (decide_eq_false (by omega))) ?_
            refine AH.take 5 rfl (by kernel_rfl) (by kernel_rfl) (by kernel_rfl) (fun _ _ _ _ h => h) (⟨hB11.trans hB11_d.symm, hB15.trans hB15_d.symm, (fun i u hu => cell_chg hZ (hcr i u hu) (fun e => e))⟩) (by decide) (fun w hS => R.move rfl) ?_
            refine AH.takeG 6 rfl (by kernel_rfl) (by kernel_rfl) (by kernel_rfl) (fun _ _ _ _ h => h) (⟨hB11.trans hB11_d.symm, hB15.trans hB15_d.symm, (fun i u hu => cell_chg hZ (hcr i u hu) (fun e => e))⟩) (by decide) rfl rfl rfl (fun w hS => FA33_6 rfl) ?_
            refine AH.takeG 7 rfl (by kernel_rfl) (by kernel_rfl) (by kernel_rfl) (fun _ _ _ _ h => h) (⟨hB11.trans hB11_d.symm, hB15.trans hB15_d.symm, (fun i u hu => cell_chg hZ (hcr i u hu) (fun e => e))⟩) (by decide) rfl rfl rfl (fun w hS => R.load Tryd.underlying31 rfl rfl (cell_at (hS.1.trans hB11_d) rfl)) ?_
            refine AH.takeG 8 rfl (by kernel_rfl) (by kernel_rfl) (by kernel_rfl) (fun _ _ _ _ h => h) (⟨hB11.trans hB11_d.symm, hB15.trans hB15_d.symm, (fun i u hu => cell_chg hZ (hcr i u hu) (fun e => e))⟩) (by decide) rfl rfl rfl (fun w hS => R.move rfl) ?_
            refine AH.takeG 9 rfl (by kernel_rfl) (by kernel_rfl) (by kernel_rfl) (fun _ _ _ _ h => h) (⟨hB11.trans hB11_d.symm, hB15.trans hB15_d.symm, (fun i u hu => cell_chg hZ (hcr i u hu) (fun e => e))⟩) (by decide) rfl rfl rfl (fun w hS => R.indexAddr1 (i := (ansL [104] t (([⟨a, false, false⟩, ⟨b, false, false⟩] : List LocalV).take j)).length) Tryd.underlying31 sz57 rfl rfl rfl (by omega)) ?_
            refine AH.takeG 10 rfl (by kernel_rfl) (by kernel_rfl) (by kernel_rfl) (fun _ _ _ _ h => h) (⟨hB11.trans hB11_d.symm, hB15.trans hB15_d.symm, (fun i u hu => cell_chg hZ (hcr i u hu) (fun e => e))⟩) (by decide) rfl rfl rfl (fun w hS => FA57_3 rfl) ?_
            refine AH.takeG 11 rfl (by kernel_rfl) (by kernel_rfl) (by kernel_rfl) (fun _ _ _ _ h => h) (⟨hB11.trans hB11_d.symm, hB15.trans hB15_d.symm, (fun i u hu => cell_chg hZ (hcr i u hu) (fun e => e))⟩) (by decide) rfl rfl rfl (fun w hS => R.loadRA hr16 rfl hS.2.2) ?_
            refine AH.takeG 12 rfl (by kernel_rfl) (by kernel_rfl) (by kernel_rfl) (fun _ _ _ _ h => h) (⟨hB11.trans hB11_d.symm, hB15.trans hB15_d.symm, (fun i u hu => cell_chg hZ (hcr i u hu) (fun e => e))⟩) (by decide) rfl rfl rfl (fun w hS => R.loadA (by assumption) rfl (hS.2.1.trans hB15_d)) ?_
            refine AH.takeG 13 rfl (by kernel_rfl) (by kernel_rfl) (by kernel_rfl) (fun _ _ _ _ h => h) (⟨hB11.trans hB11_d.symm, hB15.trans hB15_d.symm, (fun i u hu => cell_chg hZ (hcr i u hu) (fun e => e))⟩) (by decide) rfl rfl rfl (fun w hS => R.neq27 (c := false) hr16 hs16 rfl rfl (by simp [recL])) ?_
            refine AH.take 14 rfl (by kernel_rfl) (by kernel_rfl) (by kernel_rfl) (fun _ _ _ _ h => h) (⟨hB11.trans hB11_d.symm, hB15.trans hB15_d.symm, (fun i u hu => cell_chg hZ (hcr i u hu) (fun e => e))⟩) (by decide) (fun w hS => R.pickF rfl rfl) ?_
            refine AH.done (by kernel_rfl) ?_
            refine EW.next ?_
            refine CW.condF rfl ?_
            refine CW.skip ?_
            refine EW.next ?_
            refine CW.region ?_
            refine WL.op (by decide) (R.move rfl) ?_
            refine WL.op (by decide) (R.add rfl rfl (by omega)) ?_
            refine WL.op (by decide) (R.assign rfl) ?_
            refine WL.nil ?_
            refine EW.inNormal ?_
            refine EW.next ?_
            refine CW.region ?_
            refine WL.op (by decide) (R.add rfl rfl (by omega)) ?_
            refine WL.op (by decide) (R.move rfl) ?_
            refine WL.nil ?_
            exact EW.roundK [2, 10, 11, 12, 13, 40, 41] (k - 1) (by omega) ⟨hC, hK7, j + 1, (j : Int) + 1, by omega, by omega, by rw [ansL_snoc hs hfit, List.length_append]; rfl, hB11, by omega⟩
        · skip
          refine ⟨_, rfl, ?_⟩
          refine WL.op (by decide) (R.move rfl) ?_
          cases hsix : six
          · skip
            skip
            refine WL.op (by decide) (R.neqB (c := true) rfl rfl rfl) ?_
            have hfit : fits t s = true := by subst ht; simp [fits, hsix, h4]
            refine WL.next ?_
            refine CW.condT rfl ?_
            refine CW.seq ?_
            refine CW.seq ?_
            have hZ : Chg (fun _ => False) w12 w12 := Chg.refl _ _
            obtain ⟨hr16, _, gr, orr, hAr, hcr⟩ := (hvaD.keep0 hK7).at (ansL_at (own := [104]) hs hfit)
            subst hAr
            have hlt := (List.getElem?_eq_some_iff.1 (ansL_at (own := [104]) hs hfit)).1
            have hnl : (ansM [104] ⟨1, false, false, false, 0, [104], t, [], []⟩ [⟨a, false, false⟩, ⟨b, false, false⟩]).ans.length = (ansL [104] t [⟨a, false, false⟩, ⟨b, false, false⟩]).length := rfl
            have hB11_d := hB11
            have hB15_d := hB15
            refine CW.draw (fun w => w.heap[b11]? = w12.heap[b11]? ∧ w.heap[b15]? = w12.heap[b15]? ∧ (∀ i u, (recL [104] t s).cells[i]? = some u → w.cell? ⟨gr, orr + (ansL [104] t (([⟨a, false, false⟩, ⟨b, false, false⟩] : List LocalV).take j)).length * 21 + i, none⟩ = some u)) (by kernel_rfl) ?_
            have hc_w14 : Chg (fun _ => False) w12 w12.drew := Chg.drew _ _
            obtain ⟨w14, he_w14⟩ : ∃ w, w = w12.drew := ⟨_, rfl⟩
            rw [← he_w14] at hc_w14 ⊢
            have hB11 := hc_w14.at hB11 (fun e => e)
            have hB15 := hc_w14.at hB15 (fun e => e)
            have hC := hC.trans hc_w14
            have hK7 := hK7.trans hc_w14
            have hZ := hZ.trans hc_w14
            have hz_w14 := hc_w14.size
            refine AH.take 0 rfl (by kernel_rfl) (by kernel_rfl) (by kernel_rfl) (fun _ _ _ _ h => h) (⟨hB11.trans hB11_d.symm, hB15.trans hB15_d.symm, (fun i u hu => cell_chg hZ (hcr i u hu) (fun e => e))⟩) (by decide) (fun w hS => R.move rfl) ?_
            refine AH.take 1 rfl (by kernel_rfl) (by kernel_rfl) (by kernel_rfl) (fun _ _ _ _ h => h) (⟨hB11.trans hB11_d.symm, hB15.trans hB15_d.symm, (fun i u hu => cell_chg hZ (hcr i u hu) (fun e => e))⟩) (by decide) (fun w hS => FA33_6 rfl) ?_
            refine AH.take 2 rfl (by kernel_rfl) (by kernel_rfl) (by kernel_rfl) (fun _ _ _ _ h => h) (⟨hB11.trans hB11_d.symm, hB15.trans hB15_d.symm, (fun i u hu => cell_chg hZ (hcr i u hu) (fun e => e))⟩) (by decide) (fun w hS => R.load Tryd.underlying31 rfl rfl (cell_at (hS.1.trans hB11_d) rfl)) ?_
            refine AH.take 3 rfl (by kernel_rfl) (by kernel_rfl) (by kernel_rfl) (fun _ _ _ _ h => h) (⟨hB11.trans hB11_d.symm, hB15.trans hB15_d.symm, (fun i u hu => cell_chg hZ (hcr i u hu) (fun e => e))⟩) (by decide) (fun w hS => R.lenSlice rfl Tryd.underlying31 rfl) ?_
            refine AH.take 4 rfl (by kernel_rfl) (by kernel_rfl) (by kernel_rfl) (fun _ _ _ _ h => h) (⟨hB11.trans hB11_d.symm, hB15.trans hB15_d.symm, (fun i u hu => cell_chg hZ (hcr i u hu) (fun e => e))⟩) (by decide) (fun w hS => R.geq rfl rfl (decide_eq_false (by omega))) ?_
            refine AH.take 5 rfl (by kernel_rfl) (by kernel_rfl) (by kernel_rfl) (fun _ _ _ _ h => h) (⟨hB11.trans hB11_d.symm, hB15.trans hB15_d.symm, (fun i u hu => cell_chg hZ (hcr i u hu) (fun e => e))⟩) (by decide) (fun w hS => R.move rfl) ?_
            refine AH.takeG 6 rfl (by kernel_rfl) (by kernel_rfl) (by kernel_rfl) (fun _ _ _ _ h => h) (⟨hB11.trans hB11_d.symm, hB15.trans hB15_d.symm, (fun i u hu => cell_chg hZ (hcr i u hu) (fun e => e))⟩) (by decide) rfl rfl rfl (fun w hS => FA33_6 rfl) ?_
            refine AH.takeG 7 rfl (by kernel_rfl) (by kernel_rfl) (by kernel_rfl) (fun _ _ _ _ h => h) (⟨hB11.trans hB11_d.symm, hB15.trans hB15_d.symm, (fun i u hu => cell_chg hZ (hcr i u hu) (fun e => e))⟩) (by decide) rfl rfl rfl (fun w hS => R.load Tryd.underlying31 rfl rfl (cell_at (hS.1.trans hB11_d) rfl)) ?_
            refine AH.takeG 8 rfl (by kernel_rfl) (by kernel_rfl) (by kernel_rfl) (fun _ _ _ _ h => h) (⟨hB11.trans hB11_d.symm, hB15.trans hB15_d.symm, (fun i u hu => cell_chg hZ (hcr i u hu) (fun e => e))⟩) (by decide) rfl rfl rfl (fun w hS => R.move rfl) ?_
            refine AH.takeG 9 rfl (by kernel_rfl) (by kernel_rfl) (by kernel_rfl) (fun _ _ _ _ h => h) (⟨hB11.trans hB11_d.symm, hB15.trans hB15_d.symm, (fun i u hu => cell_chg hZ (hcr i u hu) (fun e => e))⟩) (by decide) rfl rfl rfl (fun w hS => R.indexAddr1 (i := (ansL [104] t (([⟨a, false, false⟩, ⟨b, false, false⟩] : List LocalV).take j)).length) Tryd.underlying31 sz57 rfl rfl rfl (by omega)) ?_
            refine AH.takeG 10 rfl (by kernel_rfl) (by kernel_rfl) (by kernel_rfl) (fun _ _ _ _ h => h) (⟨hB11.trans hB11_d.symm, hB15.trans hB15_d.symm, (fun i u hu => cell_chg hZ (hcr i u hu) (fun e => e))⟩) (by decide) rfl rfl rfl (fun w hS => FA57_3 rfl) ?_
            refine AH.takeG 11 rfl (by kernel_rfl) (by kernel_rfl) (by kernel_rfl) (fun _ _ _ _ h => h) (⟨hB11.trans hB11_d.symm, hB15.trans hB15_d.symm, (fun i u hu => cell_chg hZ (hcr i u hu) (fun e => e))⟩) (by decide) rfl rfl rfl (fun w hS => R.loadRA hr16 rfl hS.2.2) ?_
            refine AH.takeG 12 rfl (by kernel_rfl) (by kernel_rfl) (by kernel_rfl) (fun _ _ _ _ h => h) (⟨hB11.trans hB11_d.symm, hB15.trans hB15_d.symm, (fun i u hu => cell_chg hZ (hcr i u hu) (fun e => e))⟩) (by decide) rfl rfl rfl (fun w hS => R.loadA (by assumption) rfl (hS.2.1.trans hB15_d)) ?_
            refine AH.takeG 13 rfl (by kernel_rfl) (by kernel_rfl) (by kernel_rfl) (fun _ _ _ _ h => h) (⟨hB11.trans hB11_d.symm, hB15.trans hB15_d.symm, (fun i u hu => cell_chg hZ (hcr i u hu) (fun e => e))⟩) (by decide) rfl rfl rfl (fun w hS => R.neq27 (c := false) hr16 hs16 rfl rfl (by simp [recL])) ?_
            refine AH.take 14 rfl (by kernel_rfl) (by kernel_rfl) (by kernel_rfl) (fun _ _ _ _ h => h) (⟨hB11.trans hB11_d.symm, hB15.trans hB15_d.symm, (fun i u hu => cell_chg hZ (hcr i u hu) (fun e => e))⟩) (by decide) (fun w hS => R.pickF rfl rfl) ?_
            refine AH.done (by kernel_rfl) ?_
            refine EW.next ?_
            refine CW.condF rfl ?_
            refine CW.skip ?_
            refine EW.next ?_
            refine CW.region ?_
            refine WL.op (by decide) (R.move rfl) ?_
            refine WL.op (by decide) (R.add rfl rfl (by omega)) ?_
            refine WL.op (by decide) (R.assign rfl) ?_
            refine WL.nil ?_
            refine EW.inNormal ?_
            refine EW.next ?_
            refine CW.region ?_
            refine WL.op (by decide) (R.add rfl rfl (by omega)) ?_
            refine WL.op (by decide) (R.move rfl) ?_
            refine WL.nil ?_
            exact EW.roundK [2, 10, 11, 12, 13, 40, 41] (k - 1) (by omega) ⟨hC, hK7, j + 1, (j : Int) + 1, by omega, by omega, by rw [ansL_snoc hs hfit, List.length_append]; rfl, hB11, by omega⟩
          · skip
            skip
            refine WL.op (by decide) (R.neqB (c := false) rfl rfl rfl) ?_
            have hfit : fits t s = false := by subst ht; simp [fits, hsix, h4]
            refine WL.next ?_
            refine CW.condF rfl ?_
            refine CW.skip ?_
            refine EW.inNormal ?_
            refine EW.next ?_
            refine CW.region ?_
            refine WL.op (by decide) (R.add rfl rfl (by omega)) ?_
            refine WL.op (by decide) (R.move rfl) ?_
            refine WL.nil ?_
            exact EW.roundK [2, 10, 11, 12, 13, 40, 41] (k - 1) (by omega) ⟨hC, hK7, j + 1, (j : Int) + 1, by omega, by omega, by rw [ansL_same hs hfit]; rfl, hB11, by omega⟩
      · skip
        refine WL.next ?_
        refine CW.seq ?_
        refine CW.condF rfl ?_
        refine CW.exit ?_
        obtain rfl : j = 2 := by omega
        have hT : ([⟨a, false, false⟩, ⟨b, false, false⟩] : List LocalV).take 2 = [⟨a, false, false⟩, ⟨b, false, false⟩] := rfl
        refine EW.thenExit ?_
        refine EW.thenExit ?_
        refine EW.inHere ?_
        refine EW.next ?_
        refine CW.rseq ?_
        refine WL.op (by decide) (R.move rfl) ?_
        refine WL.op (by decide) (R.move rfl) ?_
        refine WL.gop (by decide) rfl rfl rfl (R.move rfl) ?_
        refine WL.gop (by decide) rfl rfl rfl (R.eql rfl rfl (decide_eq_true (rfl))) ?_
        refine WL.op (by decide) (R.pickT rfl rfl) ?_
        refine WL.op (by decide) (R.move rfl) ?_
        refine WL.gop (by decide) rfl rfl rfl (FA33_6 rfl) ?_
        refine WL.gop (by decide) rfl rfl rfl (R.load Tryd.underlying31 rfl rfl (cell_at hB11 rfl)) ?_
        refine WL.gop (by decide) rfl rfl rfl (R.lenSlice rfl Tryd.underlying31 rfl) ?_
        refine WL.gop (by decide) rfl rfl rfl (R.move rfl) ?_
        refine WL.gop (by decide) rfl rfl rfl (R.eql rfl rfl (decide_eq_true (by rw [hT]; rfl))) ?_
        refine WL.op (by decide) (R.pickT rfl rfl) ?_
        refine WL.op (by decide) (R.move rfl) ?_
        refine WL.geff rfl rfl rfl (OP.call (by decide) Tryd.func33 (by kernel_rfl) (by kernel_rfl) rfl (name_any _ _) ?_)
        rintro ed w15 ⟨rfl, hc_w15⟩
        refine ⟨_, rfl, ?_⟩
        have hB11 := hc_w15.at hB11 (fun e => e)
        have hC := hC.trans hc_w15
        have hK7 := hK7.trans hc_w15
        have hz_w15 := hc_w15.size
        refine WL.gop (by decide) rfl rfl rfl (R.eqlStrC rfl rfl (decide_eq_true (by kernel_rfl))) ?_
        refine WL.op (by decide) (R.pickT rfl rfl) ?_
        refine WL.op (by decide) (R.assign rfl) ?_
        refine WL.next ?_
        refine CW.ret ?_
        exact EW.ret1 (.inl rfl) rfl rfl ⟨rfl, hC⟩
end Go.Proofs.YthcpjcgjmdfpjaaDoor

namespace Go.Proofs.YthcpjcgjmdfpjaaDoor
open Go Go.ChangeShapes Go.WideShapes Go.ChangeAt Go.RowKit
set_option maxRecDepth 100000

theorem llmnrTypes_lifted (os : Os) (started : os.Started) (H : Type) (enc : TypeId × Value → H) :
    ReturnsInHanded {} Tryd.checked os 13 .any (fun w args => (Rows.llmnrTypesSpec.pre enc Tryd.prog Tryd.f13 [] false w args ∧ laidMetH Tryd.prog laidL w) ∧ sizedMet enc Tryd.prog Tryd.f13 (OpenSpec.ofChange Rows.llmnrTypesSpec) false w args)
      (Rows.llmnrTypesSpec.post enc Tryd.prog Tryd.f13 false true false false) := by
  refine law_lifted (s := Rows.llmnrTypesSpec) started Tryd.func13 (by kernel_rfl) rfl (by kernel_rfl) (by kernel_rfl) ?_ ?_
    (ChangeSpec.witness_shaped (enc := enc) (C := Tryd.checked) (os := os) (X := fun w _ => laidMetH Tryd.prog laidL w) false (World.laidAll Tryd.prog os laidL) #[.agg (zero16.map u8v).toArray, .agg (zero16.map u8v).toArray, .bool false] 8 (World.laidAll_os _ _ _)
      (World.shaped_of_ZipB (by kernel_rfl) (by kernel_rfl)) (by kernel_rfl) (by kernel_rfl) (by kernel_rfl)
      (by rw [MakeChecks.laidMetH_plain _ _ _ (by kernel_rfl)]; exact laidMet_laidAll _ (by kernel_rfl) (by kernel_rfl))) ?_
  · intro ds hl
    rw [show Tryd.f13.params.size = 3 by rw [Tryd.params13]; rfl] at hl
    obtain ⟨d0, d1, d2, rfl⟩ := list3 hl
    rfl
  · intro W vs ds ps h
    exact trodAll_len h
  intro W base args ds p hval hA hlt hw hG
  rw [Tryd.params13] at hA hval hw
  obtain ⟨v0, v1, v2, d0, d1, d2, p0, p1, p2, rfl, rfl, rfl, h0, h1, h2⟩ := trodAll_three hA
  obtain ⟨a, rfl, h16a⟩ := open_addr (hval 0 27 v0 rfl rfl) h0
  obtain ⟨b, rfl, h16b⟩ := open_addr (hval 1 27 v1 rfl rfl) h1
  obtain ⟨b2, rfl, rfl, rfl⟩ := open_bool Tryd.underlying4 (hval 2 4 v2 rfl rfl) h2
  exact llmnrTypes_any a b b2 W h16a h16b hG

theorem llmnrTypes_joined : joinedFacts Tryd.prog 13 Tryd.f13 Rows.llmnrTypesSpec Rows.llmnrTypesRow = true :=
  joined_of seat_mayEnter seat_lifts seat_make rfl rfl rfl rfl (by kernel_rfl) (by kernel_rfl) (by kernel_rfl) (by kernel_rfl) (by kernel_rfl) (by kernel_rfl) (by kernel_rfl) (by kernel_rfl) (by kernel_rfl) (by kernel_rfl) (by kernel_rfl) (by kernel_rfl) (by kernel_rfl) (by kernel_rfl) (by kernel_rfl) (by kernel_rfl) (by kernel_rfl) (by kernel_rfl) (by kernel_rfl) (by kernel_rfl) (by kernel_rfl) (by kernel_rfl) (by kernel_rfl) (by kernel_rfl) (by kernel_rfl) (by kernel_rfl) (by kernel_rfl) (by kernel_rfl)
theorem llmnrTypes_holds : Rows.LlmnrTypesSaid :=
  OpenClaim.holds_of_wide 13 Tryd.f13 rfl rfl rfl rfl rfl rfl rfl ⟨rfl, rfl, rfl, rfl, rfl⟩ rfl rfl rfl rfl rfl (by kernel_rfl) Tryd.func13 llmnrTypes_joined
    (of_decide_eq_true (by kernel_rfl)) (by unfold Func.isWrapper; first | (rw [if_pos (by decide +kernel)]; kernel_rfl) | (rw [if_neg (by decide +kernel)]; exact ⟨rfl, rfl⟩))
    (fun os started H enc _ => llmnrTypes_lifted os started H enc)
theorem llmnrTypes_card : Rows.LlmnrTypesCardSaid :=
  Claim7.holds_tied_plain_at .later [] [.data] true (true, "6afa14409c1fcf784e159d3dd9af9e0af6fc07a3d3e06aa2c8b4c577951ca517") false llmnrTypes_holds (fun _ h => by cases h) (by kernel_rfl) (fun _ h => by cases h) llmnrTypes_row_tie rfl ⟨rfl, rfl⟩ seat_main rfl
    (fun f fn hf hfn => by
      obtain rfl : f = 13 := Option.some.inj ((show Tryd.prog.funcNamed "nomenclator/nomenclatorlaw14.LlmnrTypes" = some 13 by kernel_rfl).symm.trans hf) |>.symm
      obtain rfl : fn = Tryd.f13 := (Option.some.inj (Tryd.func13.symm.trans hfn)).symm
      exact ⟨by kernel_rfl, fun j t ht => by
        rw [Tryd.params13] at ht
        have hm : t ∈ [27, 27, 4] := by simpa using Array.mem_of_getElem? ht
        have hall : ([27, 27, 4].all fun u => !Tryd.prog.wantsStandIn u) = true := by kernel_rfl
        exact (show Tryd.prog.wantsStandIn t = false by simpa using List.all_eq_true.1 hall t hm)⟩)
    (by kernel_rfl)
end Go.Proofs.YthcpjcgjmdfpjaaDoor
