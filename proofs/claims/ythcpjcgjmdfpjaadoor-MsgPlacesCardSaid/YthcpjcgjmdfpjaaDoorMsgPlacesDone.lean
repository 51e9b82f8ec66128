/- MsgPlaces: the statement MsgPlaces is proved (its card); no conditions. Here: MsgPlaces, MsgPlacesCard. -/
import Derived.Test.YthcpjcgjmdfpjaaDoorWordsMsg
import Derived.Test.YthcpjcgjmdfpjaaDoorCoreB
import Derived.Test.YthcpjcgjmdfpjaaDoorCoreE
namespace Go.Proofs.YthcpjcgjmdfpjaaDoor
open Go Go.RowKit
set_option maxRecDepth 100000
set_option maxHeartbeats 4000000

theorem msgPlaces_any (n m : Int) (w0 : World) (hG : Glob w0) : Calls Tryd.prog 17 #[.int .i64 n, .int .i64 m] w0 fun e w' => e = .returned (.bool true) ∧ Chg (fun _ => False) w0 w' := by
  have hC := Chg.refl (fun _ => False) w0
  obtain ⟨T, hT0⟩ : ∃ T : Nat, m % ((2 ^ 4 : Nat) : Int) = (T : Int) := ⟨(m % ((2 ^ 4 : Nat) : Int)).toNat, by omega⟩
  have hT16 : T < 16 := by omega
  refine calls_cw (args := [.int .i64 n, .int .i64 m]) Tryd.func17 rfl rfl ?_
  show CW _ _ _ 53 [(0, .int .i64 n), (1, .int .i64 m)] w0
  refine CW.rseq ?_
  refine WL.op (by decide) (R.assign rfl) ?_
  refine WL.next ?_
  refine CW.seq ?_
  refine CW.rseq ?_
  refine WL.eff rfl (OP.call (by decide) Tryd.func29 (by kernel_rfl) (by kernel_rfl) rfl (fit04_any _ (hG.keep0 hC)) ?_)
  rintro ed w1 ⟨rfl, hc_w1⟩
  refine ⟨_, rfl, ?_⟩
  have hC := hC.trans hc_w1
  have hz_w1 := hc_w1.size
  refine WL.op (by decide) (R.not rfl) ?_
  refine WL.next ?_
  refine CW.condF rfl ?_
  refine CW.skip ?_
  refine EW.next ?_
  refine CW.rseq ?_
  refine WL.op (by decide) (R.move rfl) ?_
  refine WL.op (by decide) (R.maskN 4 rfl rfl (by decide) rfl hT0) ?_
  refine WL.op (by decide) (R.add rfl rfl (by omega)) ?_
  refine WL.op (by decide) (R.assign rfl) ?_
  refine WL.next ?_
  refine CW.rseq ?_
  refine WL.op (by decide) (R.move rfl) ?_
  refine WL.eff rfl (OP.call (by decide) Tryd.func33 (by kernel_rfl) (by kernel_rfl) rfl (name_any _ _) ?_)
  rintro ed w2 ⟨rfl, hc_w2⟩
  refine ⟨_, rfl, ?_⟩
  have hC := hC.trans hc_w2
  have hz_w2 := hc_w2.size
  refine WL.op (by decide) (R.build (parts := [(0, _), (1, _)]) (vals := [(0, _), (1, _)]) rfl (fun w => build25_2 (nameN n) 1 w)) ?_
  refine WL.op (by decide) (R.build (parts := [(5, _)]) (vals := [(5, _)]) rfl (fun w => build33_5 (nameN n) 1 w)) ?_
  refine WL.eff rfl (OP.allocM (by decide) ?_)
  intro w3 hc_w3 hs_w3 hB5
  obtain ⟨b5, he_b5⟩ : ∃ b, b = w2.heap.size := ⟨_, rfl⟩
  rw [← he_b5] at hB5 ⊢
  have hC := hC.trans hc_w3
  have hz_w3 := hc_w3.size
  refine WL.eff rfl (OP.storeM rfl rfl hB5 ?_)
  intro w4 hc_w4 hs_w4 hB5
  have hC := hC.thenB hc_w4 (by omega)
  refine WL.next ?_
  refine CW.rseq ?_
  refine WL.op (by decide) (R.loadM rfl hB5) ?_
  refine WL.eff rfl (OP.call (by decide) Tryd.func24 (by kernel_rfl) (by kernel_rfl) rfl (encode_src _ _ _ ⟨_, _, rfl, (RSl.nil _), (RSl.nil _)⟩ (plc_back (j := 0) (nameN_ok n).1 (nameN_ok n).2.1 (by decide))) ?_)
  rintro ed w5 ⟨gQ, ceQ, bsQ, rfl, hbsQ, hBufQ, hSrcQ, hmoreQ, hdecQ, hblQ, hgeQ, hglQ, hc_w5⟩
  refine ⟨_, rfl, ?_⟩
  have hB5 := hc_w5.at hB5 (fun e => e)
  have hC := hC.trans hc_w5
  have hz_w5 := hc_w5.size
  have hK5 : Chg (fun _ => False) w5 w5 := Chg.refl _ _
  refine WL.op (by decide) (R.lenSlice rfl Tryd.underlying36 rfl) ?_
  refine WL.op (by decide) (R.assign rfl) ?_
  refine WL.next ?_
  refine CW.seq ?_
  refine CW.rseq ?_
  obtain ⟨base, he_base⟩ : ∃ b, b = w5.heap.size := ⟨_, rfl⟩
  have hqb := plc_len (j := 0) (nameN_ok n).1 hbsQ
  have hsl := (nameN_ok n).2.2
  refine WL.op (by decide) (R.move rfl) ?_
  refine WL.op (by decide) (R.move rfl) ?_
  refine WL.next ?_
  refine CW.block ?_
  refine CW.loopK [0, 1, 5, 6, 20, 21] (fun k le wr => Chg (fun _ => False) w0 wr ∧ base ≤ wr.heap.size ∧ ∃ (j : Nat) (jj : Int) (A1 : Option Addr) (c1 : Nat), j + k = T + 1 ∧ jj = (j : Int) ∧ le = [(0, .int .i64 n), (1, .int .i64 ((T : Int) + 1)), (5, .pointer (some ⟨b5, 0, none⟩)), (6, .int .i64 (bsQ.length : Nat)), (20, .int .i64 ((T : Int) + 1)), (21, .int .i64 jj)] ∧ BM wr b5 (plcM (nameN n) j) (.slice A1 j c1) (.slice none 0 0) ∧ RBuf wr base (.slice A1 j c1) (List.replicate j (placeR (nameN n)))) (T + 1) ?_ ?_
  · exact ⟨hC, by omega, 0, 0, none, 0, by omega, rfl, rfl, hB5, RBuf.nil _ _⟩
  · rintro k le wr ⟨hC, hbw, j, jj, A1, c1, hk, rfl, rfl, hB5, hRB⟩
    have hK : Chg (fun _ => False) wr wr := Chg.refl _ _
    have hz_hC := hC.size
    have hz_hK := hK.size
    refine CW.rseq ?_
    refine WL.lssS (by decide) rfl rfl (fun h1 => ?_) (fun h1 => ?_)
    · skip
      refine WL.next ?_
      refine CW.seq ?_
      refine CW.condT rfl ?_
      refine CW.skip ?_
      refine EW.next ?_
      refine CW.seq ?_
      refine CW.block ?_
      refine CW.draw (fun w => True) (by kernel_rfl) ?_
      have hc_w6 : Chg (fun _ => False) wr wr.drew := Chg.drew _ _
      obtain ⟨w6, he_w6⟩ : ∃ w, w = wr.drew := ⟨_, rfl⟩
      rw [← he_w6] at hc_w6 ⊢
      have hB5 := hc_w6.at hB5 (fun e => e)
      have hC := hC.trans hc_w6
      have hK := hK.trans hc_w6
      have hz_w6 := hc_w6.size
      refine AH.take 0 rfl (by kernel_rfl) (by kernel_rfl) (by kernel_rfl) (fun _ _ _ _ h => h) (trivial) (by decide) (fun w hS => FA33_6 rfl) ?_
      refine AH.take 2 rfl (by kernel_rfl) (by kernel_rfl) (by kernel_rfl) (fun _ _ _ _ h => h) (trivial) (by decide) (fun w hS => R.move rfl) ?_
      refine AH.take 4 rfl (by kernel_rfl) (by kernel_rfl) (by kernel_rfl) (fun _ _ _ _ h => h) (trivial) (by decide) (fun w hS => R.move rfl) ?_
      refine AH.either 1 3 (by kernel_rfl) rfl rfl rfl rfl ?_ ?_
      · skip
        refine (OP.val (by decide) (R.load Tryd.underlying31 rfl rfl (cell_at hB5 rfl)) ?_)
        refine ⟨trivial, ?_⟩
        refine AH.eff 3 (by kernel_rfl) rfl rfl (OP.call (by decide) Tryd.func33 (by kernel_rfl) (by kernel_rfl) rfl (name_any _ _) ?_)
        rintro ed w7 ⟨rfl, hc_w7⟩
        refine ⟨_, rfl, ?_⟩
        have hB5 := hc_w7.at hB5 (fun e => e)
        have hC := hC.trans hc_w7
        have hK := hK.trans hc_w7
        have hz_w7 := hc_w7.size
        refine ⟨trivial, ?_⟩
        refine AH.eff 5 (by kernel_rfl) rfl rfl (OP.call (by decide) Tryd.func33 (by kernel_rfl) (by kernel_rfl) rfl (name_any _ _) ?_)
        rintro ed w8 ⟨rfl, hc_w8⟩
        refine ⟨_, rfl, ?_⟩
        have hB5 := hc_w8.at hB5 (fun e => e)
        have hC := hC.trans hc_w8
        have hK := hK.trans hc_w8
        have hz_w8 := hc_w8.size
        refine ⟨trivial, ?_⟩
        refine AH.take 6 rfl (by kernel_rfl) (by kernel_rfl) (by kernel_rfl) (fun _ _ _ _ h => h) (trivial) (by decide) (fun w hS => R.build (parts := [(0, _), (1, _), (4, _)]) (vals := [(0, _), (1, _), (4, _)]) rfl (fun w => build57_014 (nameN n) (nameN n) 5 w)) ?_
        refine AH.eff 7 (by kernel_rfl) rfl rfl (OP.buildSliceR (by decide) rfl (show (placeR (nameN n)).addr.length = 16 from rfl) ?_)
        intro w9 hc_w9 hs_w9 hN
        have hB5 := hc_w9.at hB5 (fun e => e)
        have hC := hC.trans hc_w9
        have hK := hK.trans hc_w9
        have hz_w9 := hc_w9.size
        refine ⟨trivial, ?_⟩
        refine AH.eff 8 (by kernel_rfl) rfl rfl (OP.appendR (by decide) rfl rfl (hRB.kept hK (fun _ _ e => e)) (show (placeR (nameN n)).addr.length = 16 from rfl) hN (by simp; omega) (by omega) ?_)
        intro v2 w10 hRn hMv
        have hc_w10 : Chg (fun k => base ≤ k) w9 w10 := (Chg.moved hMv).mono (fun k _ e => (hRB.lt k e.symm).1)
        clear hMv
        obtain ⟨A1, c1, rfl⟩ := appended_rec (j := j) (by simp) hRn
        rw [← List.replicate_succ'] at hRn
        have hRB := hRn
        clear hRn
        have hB5 := hc_w10.at hB5 (fun e => by omega)
        have hC := hC.then hc_w10 (fun _ _ e => by omega)
        have hz_w10 := hc_w10.size
        refine ⟨trivial, ?_⟩
        refine AH.take 9 rfl (by kernel_rfl) (by kernel_rfl) (by kernel_rfl) (fun _ _ _ _ h => h) (trivial) (by decide) (fun w hS => FA33_6 rfl) ?_
        refine AH.eff 10 (by kernel_rfl) rfl rfl (OP.storeAns (rs := List.replicate (j + 1) (placeR (nameN n))) rfl rfl hB5 ?_)
        intro w11 hc_w11 hs_w11 hB5
        have hC := hC.thenB hc_w11 (by omega)
        have hRB := hRB.kept hc_w11 (fun k e1 e2 => by have := hRB.lt k e1; omega)
        refine ⟨trivial, ?_⟩
        refine AH.done (by kernel_rfl) ?_
        refine EW.inNormal ?_
        refine EW.next ?_
        refine CW.region ?_
        refine WL.op (by decide) (R.add rfl rfl (by omega)) ?_
        refine WL.op (by decide) (R.move rfl) ?_
        refine WL.nil ?_
        exact EW.roundK [0, 1, 5, 6, 20, 21] (k - 1) (by omega) ⟨hC, by omega, j + 1, _, A1, c1, by omega, by omega, rfl, hB5, hRB⟩
      · skip
        refine (OP.call (by decide) Tryd.func33 (by kernel_rfl) (by kernel_rfl) rfl (name_any _ _) ?_)
        rintro ed w12 ⟨rfl, hc_w12⟩
        refine ⟨_, rfl, ?_⟩
        have hB5 := hc_w12.at hB5 (fun e => e)
        have hC := hC.trans hc_w12
        have hK := hK.trans hc_w12
        have hz_w12 := hc_w12.size
        refine ⟨trivial, ?_⟩
        refine AH.either 1 5 (by kernel_rfl) rfl rfl rfl rfl ?_ ?_
        · skip
          refine (OP.val (by decide) (R.load Tryd.underlying31 rfl rfl (cell_at hB5 rfl)) ?_)
          refine ⟨trivial, ?_⟩
          refine AH.eff 5 (by kernel_rfl) rfl rfl (OP.call (by decide) Tryd.func33 (by kernel_rfl) (by kernel_rfl) rfl (name_any _ _) ?_)
          rintro ed w13 ⟨rfl, hc_w13⟩
          refine ⟨_, rfl, ?_⟩
          have hB5 := hc_w13.at hB5 (fun e => e)
          have hC := hC.trans hc_w13
          have hK := hK.trans hc_w13
          have hz_w13 := hc_w13.size
          refine ⟨trivial, ?_⟩
          refine AH.take 6 rfl (by kernel_rfl) (by kernel_rfl) (by kernel_rfl) (fun _ _ _ _ h => h) (trivial) (by decide) (fun w hS => R.build (parts := [(0, _), (1, _), (4, _)]) (vals := [(0, _), (1, _), (4, _)]) rfl (fun w => build57_014 (nameN n) (nameN n) 5 w)) ?_
          refine AH.eff 7 (by kernel_rfl) rfl rfl (OP.buildSliceR (by decide) rfl (show (placeR (nameN n)).addr.length = 16 from rfl) ?_)
          intro w14 hc_w14 hs_w14 hN
          have hB5 := hc_w14.at hB5 (fun e => e)
          have hC := hC.trans hc_w14
          have hK := hK.trans hc_w14
          have hz_w14 := hc_w14.size
          refine ⟨trivial, ?_⟩
          refine AH.eff 8 (by kernel_rfl) rfl rfl (OP.appendR (by decide) rfl rfl (hRB.kept hK (fun _ _ e => e)) (show (placeR (nameN n)).addr.length = 16 from rfl) hN (by simp; omega) (by omega) ?_)
          intro v2 w15 hRn hMv
          have hc_w15 : Chg (fun k => base ≤ k) w14 w15 := (Chg.moved hMv).mono (fun k _ e => (hRB.lt k e.symm).1)
          clear hMv
          obtain ⟨A1, c1, rfl⟩ := appended_rec (j := j) (by simp) hRn
          rw [← List.replicate_succ'] at hRn
          have hRB := hRn
          clear hRn
          have hB5 := hc_w15.at hB5 (fun e => by omega)
          have hC := hC.then hc_w15 (fun _ _ e => by omega)
          have hz_w15 := hc_w15.size
          refine ⟨trivial, ?_⟩
          refine AH.take 9 rfl (by kernel_rfl) (by kernel_rfl) (by kernel_rfl) (fun _ _ _ _ h => h) (trivial) (by decide) (fun w hS => FA33_6 rfl) ?_
          refine AH.eff 10 (by kernel_rfl) rfl rfl (OP.storeAns (rs := List.replicate (j + 1) (placeR (nameN n))) rfl rfl hB5 ?_)
          intro w16 hc_w16 hs_w16 hB5
          have hC := hC.thenB hc_w16 (by omega)
          have hRB := hRB.kept hc_w16 (fun k e1 e2 => by have := hRB.lt k e1; omega)
          refine ⟨trivial, ?_⟩
          refine AH.done (by kernel_rfl) ?_
          refine EW.inNormal ?_
          refine EW.next ?_
          refine CW.region ?_
          refine WL.op (by decide) (R.add rfl rfl (by omega)) ?_
          refine WL.op (by decide) (R.move rfl) ?_
          refine WL.nil ?_
          exact EW.roundK [0, 1, 5, 6, 20, 21] (k - 1) (by omega) ⟨hC, by omega, j + 1, _, A1, c1, by omega, by omega, rfl, hB5, hRB⟩
        · skip
          refine (OP.call (by decide) Tryd.func33 (by kernel_rfl) (by kernel_rfl) rfl (name_any _ _) ?_)
          rintro ed w17 ⟨rfl, hc_w17⟩
          refine ⟨_, rfl, ?_⟩
          have hB5 := hc_w17.at hB5 (fun e => e)
          have hC := hC.trans hc_w17
          have hK := hK.trans hc_w17
          have hz_w17 := hc_w17.size
          refine ⟨trivial, ?_⟩
          refine AH.take 6 rfl (by kernel_rfl) (by kernel_rfl) (by kernel_rfl) (fun _ _ _ _ h => h) (trivial) (by decide) (fun w hS => R.build (parts := [(0, _), (1, _), (4, _)]) (vals := [(0, _), (1, _), (4, _)]) rfl (fun w => build57_014 (nameN n) (nameN n) 5 w)) ?_
          refine AH.either 1 7 (by kernel_rfl) rfl rfl rfl rfl ?_ ?_
          · skip
            refine (OP.val (by decide) (R.load Tryd.underlying31 rfl rfl (cell_at hB5 rfl)) ?_)
            refine ⟨trivial, ?_⟩
            refine AH.eff 7 (by kernel_rfl) rfl rfl (OP.buildSliceR (by decide) rfl (show (placeR (nameN n)).addr.length = 16 from rfl) ?_)
            intro w18 hc_w18 hs_w18 hN
            have hB5 := hc_w18.at hB5 (fun e => e)
            have hC := hC.trans hc_w18
            have hK := hK.trans hc_w18
            have hz_w18 := hc_w18.size
            refine ⟨trivial, ?_⟩
            refine AH.eff 8 (by kernel_rfl) rfl rfl (OP.appendR (by decide) rfl rfl (hRB.kept hK (fun _ _ e => e)) (show (placeR (nameN n)).addr.length = 16 from rfl) hN (by simp; omega) (by omega) ?_)
            intro v2 w19 hRn hMv
            have hc_w19 : Chg (fun k => base ≤ k) w18 w19 := (Chg.moved hMv).mono (fun k _ e => (hRB.lt k e.symm).1)
            clear hMv
            obtain ⟨A1, c1, rfl⟩ := appended_rec (j := j) (by simp) hRn
            rw [← List.replicate_succ'] at hRn
            have hRB := hRn
            clear hRn
            have hB5 := hc_w19.at hB5 (fun e => by omega)
            have hC := hC.then hc_w19 (fun _ _ e => by omega)
            have hz_w19 := hc_w19.size
            refine ⟨trivial, ?_⟩
            refine AH.take 9 rfl (by kernel_rfl) (by kernel_rfl) (by kernel_rfl) (fun _ _ _ _ h => h) (trivial) (by decide) (fun w hS => FA33_6 rfl) ?_
            refine AH.eff 10 (by kernel_rfl) rfl rfl (OP.storeAns (rs := List.replicate (j + 1) (placeR (nameN n))) rfl rfl hB5 ?_)
            intro w20 hc_w20 hs_w20 hB5
            have hC := hC.thenB hc_w20 (by omega)
            have hRB := hRB.kept hc_w20 (fun k e1 e2 => by have := hRB.lt k e1; omega)
            refine ⟨trivial, ?_⟩
            refine AH.done (by kernel_rfl) ?_
            refine EW.inNormal ?_
            refine EW.next ?_
            refine CW.region ?_
            refine WL.op (by decide) (R.add rfl rfl (by omega)) ?_
            refine WL.op (by decide) (R.move rfl) ?_
            refine WL.nil ?_
            exact EW.roundK [0, 1, 5, 6, 20, 21] (k - 1) (by omega) ⟨hC, by omega, j + 1, _, A1, c1, by omega, by omega, rfl, hB5, hRB⟩
          · skip
            refine (OP.buildSliceR (by decide) rfl (show (placeR (nameN n)).addr.length = 16 from rfl) ?_)
            intro w21 hc_w21 hs_w21 hN
            have hB5 := hc_w21.at hB5 (fun e => e)
            have hC := hC.trans hc_w21
            have hK := hK.trans hc_w21
            have hz_w21 := hc_w21.size
            refine ⟨trivial, ?_⟩
            refine AH.eff 1 (by kernel_rfl) rfl rfl (OP.val (by decide) (R.load Tryd.underlying31 rfl rfl (cell_at hB5 rfl)) ?_)
            refine ⟨trivial, ?_⟩
            refine AH.eff 8 (by kernel_rfl) rfl rfl (OP.appendR (by decide) rfl rfl (hRB.kept hK (fun _ _ e => e)) (show (placeR (nameN n)).addr.length = 16 from rfl) hN (by simp; omega) (by omega) ?_)
            intro v2 w22 hRn hMv
            have hc_w22 : Chg (fun k => base ≤ k) w21 w22 := (Chg.moved hMv).mono (fun k _ e => (hRB.lt k e.symm).1)
            clear hMv
            obtain ⟨A1, c1, rfl⟩ := appended_rec (j := j) (by simp) hRn
            rw [← List.replicate_succ'] at hRn
            have hRB := hRn
            clear hRn
            have hB5 := hc_w22.at hB5 (fun e => by omega)
            have hC := hC.then hc_w22 (fun _ _ e => by omega)
            have hz_w22 := hc_w22.size
            refine ⟨trivial, ?_⟩
            refine AH.take 9 rfl (by kernel_rfl) (by kernel_rfl) (by kernel_rfl) (fun _ _ _ _ h => h) (trivial) (by decide) (fun w hS => FA33_6 rfl) ?_
            refine AH.eff 10 (by kernel_rfl) rfl rfl (OP.storeAns (rs := List.replicate (j + 1) (placeR (nameN n))) rfl rfl hB5 ?_)
            intro w23 hc_w23 hs_w23 hB5
            have hC := hC.thenB hc_w23 (by omega)
            have hRB := hRB.kept hc_w23 (fun k e1 e2 => by have := hRB.lt k e1; omega)
            refine ⟨trivial, ?_⟩
            refine AH.done (by kernel_rfl) ?_
            refine EW.inNormal ?_
            refine EW.next ?_
            refine CW.region ?_
            refine WL.op (by decide) (R.add rfl rfl (by omega)) ?_
            refine WL.op (by decide) (R.move rfl) ?_
            refine WL.nil ?_
            exact EW.roundK [0, 1, 5, 6, 20, 21] (k - 1) (by omega) ⟨hC, by omega, j + 1, _, A1, c1, by omega, by omega, rfl, hB5, hRB⟩
    · skip
      refine WL.next ?_
      refine CW.seq ?_
      refine CW.condF rfl ?_
      refine CW.exit ?_
      obtain rfl : j = T + 1 := by omega
      have hRBs := hRB.sl
      refine EW.thenExit ?_
      refine EW.thenExit ?_
      refine EW.inHere ?_
      refine EW.next ?_
      refine CW.rseq ?_
      refine WL.op (by decide) (R.loadM rfl hB5) ?_
      refine WL.eff rfl (OP.call (by decide) Tryd.func24 (by kernel_rfl) (by kernel_rfl) rfl (encode_src _ _ _ ⟨_, _, rfl, (hRBs.keep0 hK), (RSl.nil _)⟩ (plc_back (nameN_ok n).1 (nameN_ok n).2.1 (by omega))) ?_)
      rintro ed w24 ⟨gE, ceE, bsE, rfl, hbsE, hBufE, hSrcE, hmoreE, hdecE, hblE, hgeE, hglE, hc_w24⟩
      refine ⟨_, rfl, ?_⟩
      have hB5 := hc_w24.at hB5 (fun e => e)
      have hC := hC.trans hc_w24
      have hK := hK.trans hc_w24
      have hz_w24 := hc_w24.size
      have hK24 : Chg (fun _ => False) w24 w24 := Chg.refl _ _
      refine WL.op (by decide) (R.assign rfl) ?_
      refine WL.next ?_
      refine CW.rseq ?_
      have hqe := plc_len (nameN_ok n).1 hbsE
      refine WL.op (by decide) (R.move rfl) ?_
      refine WL.op (by decide) (R.move rfl) ?_
      refine WL.eff rfl (OP.call (by decide) Tryd.func33 (by kernel_rfl) (by kernel_rfl) rfl (name_any _ _) ?_)
      rintro ed w25 ⟨rfl, hc_w25⟩
      refine ⟨_, rfl, ?_⟩
      have hB5 := hc_w25.at hB5 (fun e => e)
      have hC := hC.trans hc_w25
      have hK := hK.trans hc_w25
      have hK24 := hK24.trans hc_w25
      have hz_w25 := hc_w25.size
      refine WL.op (by decide) (R.lenS rfl rfl) ?_
      refine WL.op (by decide) (R.add rfl rfl (by omega)) ?_
      refine WL.op (by decide) (R.add rfl rfl (by omega)) ?_
      refine WL.op (by decide) (R.add rfl rfl (by omega)) ?_
      refine WL.op (by decide) (R.eql rfl rfl (decide_eq_true (by omega))) ?_
      refine WL.op (by decide) (R.move rfl) ?_
      refine WL.gop (by decide) rfl rfl rfl (R.move rfl) ?_
      refine WL.gop (by decide) rfl rfl rfl (R.lenSlice rfl Tryd.underlying36 rfl) ?_
      refine WL.gop (by decide) rfl rfl rfl (R.move rfl) ?_
      refine WL.gop (by decide) rfl rfl rfl (R.move rfl) ?_
      refine WL.gop (by decide) rfl rfl rfl (R.mul rfl rfl (by omega)) ?_
      refine WL.gop (by decide) rfl rfl rfl (R.add rfl rfl (by omega)) ?_
      refine WL.gop (by decide) rfl rfl rfl (R.eql rfl rfl (decide_eq_true (by omega))) ?_
      refine WL.op (by decide) (R.pickT rfl rfl) ?_
      refine WL.op (by decide) (R.assign rfl) ?_
      refine WL.next ?_
      refine CW.ret ?_
      exact EW.ret1 (.inl rfl) rfl rfl ⟨rfl, hC⟩
end Go.Proofs.YthcpjcgjmdfpjaaDoor

namespace Go.Proofs.YthcpjcgjmdfpjaaDoor
open Go Go.ChangeShapes Go.WideShapes Go.ChangeAt Go.RowKit
set_option maxRecDepth 100000

theorem msgPlaces_lifted (os : Os) (started : os.Started) (H : Type) (enc : TypeId × Value → H) :
    ReturnsInHanded {} Tryd.checked os 17 .any (fun w args => (Rows.msgPlacesSpec.pre enc Tryd.prog Tryd.f17 [] false w args ∧ laidMetH Tryd.prog laidL w) ∧ sizedMet enc Tryd.prog Tryd.f17 (OpenSpec.ofChange Rows.msgPlacesSpec) false w args)
      (Rows.msgPlacesSpec.post enc Tryd.prog Tryd.f17 false true false false) := by
  refine law_lifted (s := Rows.msgPlacesSpec) started Tryd.func17 (by kernel_rfl) rfl (by kernel_rfl) (by kernel_rfl) ?_ ?_
    (ChangeSpec.witness_shaped (enc := enc) (C := Tryd.checked) (os := os) (X := fun w _ => laidMetH Tryd.prog laidL w) false (World.laidAll Tryd.prog os laidL) #[.int .i64 0, .int .i64 0] 8 (World.laidAll_os _ _ _)
      (World.shaped_of_ZipB (by kernel_rfl) (by kernel_rfl)) (by kernel_rfl) (by kernel_rfl) (by kernel_rfl)
      (by rw [MakeChecks.laidMetH_plain _ _ _ (by kernel_rfl)]; exact laidMet_laidAll _ (by kernel_rfl) (by kernel_rfl))) ?_
  · intro ds hl
    rw [show Tryd.f17.params.size = 2 by rw [Tryd.params17]; rfl] at hl
    obtain ⟨d0, d1, rfl⟩ := list2 hl
    rfl
  · intro W vs ds ps h
    exact trodAll_len h
  intro W base args ds p hval hA hlt hw hG
  rw [Tryd.params17] at hA hval hw
  obtain ⟨v0, v1, d0, d1, p0, p1, rfl, rfl, rfl, h0, h1⟩ := trodAll_two hA
  obtain ⟨n, rfl, rfl, rfl, _⟩ := open_int Tryd.underlying3 (hval 0 3 v0 rfl rfl) h0
  obtain ⟨m, rfl, rfl, rfl, _⟩ := open_int Tryd.underlying3 (hval 1 3 v1 rfl rfl) h1
  exact msgPlaces_any n m W hG

theorem msgPlaces_joined : joinedFacts Tryd.prog 17 Tryd.f17 Rows.msgPlacesSpec Rows.msgPlacesRow = true :=
  joined_of seat_mayEnter seat_lifts seat_make rfl rfl rfl rfl (by kernel_rfl) (by kernel_rfl) (by kernel_rfl) (by kernel_rfl) (by kernel_rfl) (by kernel_rfl) (by kernel_rfl) (by kernel_rfl) (by kernel_rfl) (by kernel_rfl) (by kernel_rfl) (by kernel_rfl) (by kernel_rfl) (by kernel_rfl) (by kernel_rfl) (by kernel_rfl) (by kernel_rfl) (by kernel_rfl) (by kernel_rfl) (by kernel_rfl) (by kernel_rfl) (by kernel_rfl) (by kernel_rfl) (by kernel_rfl) (by kernel_rfl) (by kernel_rfl) (by kernel_rfl) (by kernel_rfl)
theorem msgPlaces_holds : Rows.MsgPlacesSaid :=
  OpenClaim.holds_of_wide 17 Tryd.f17 rfl rfl rfl rfl rfl rfl rfl ⟨rfl, rfl, rfl, rfl, rfl⟩ rfl rfl rfl rfl rfl (by kernel_rfl) Tryd.func17 msgPlaces_joined
    (of_decide_eq_true (by kernel_rfl)) (by unfold Func.isWrapper; first | (rw [if_pos (by decide +kernel)]; kernel_rfl) | (rw [if_neg (by decide +kernel)]; exact ⟨rfl, rfl⟩))
    (fun os started H enc _ => msgPlaces_lifted os started H enc)
theorem msgPlaces_card : Rows.MsgPlacesCardSaid :=
  Claim7.holds_tied_plain_at .later [] [.data] true (true, "6afa14409c1fcf784e159d3dd9af9e0af6fc07a3d3e06aa2c8b4c577951ca517") false msgPlaces_holds (fun _ h => by cases h) (by kernel_rfl) (fun _ h => by cases h) msgPlaces_row_tie rfl ⟨rfl, rfl⟩ seat_main rfl
    (fun f fn hf hfn => by
      obtain rfl : f = 17 := Option.some.inj ((show Tryd.prog.funcNamed "nomenclator/nomenclatorlaw04.MsgPlaces" = some 17 by kernel_rfl).symm.trans hf) |>.symm
      obtain rfl : fn = Tryd.f17 := (Option.some.inj (Tryd.func17.symm.trans hfn)).symm
      exact ⟨by kernel_rfl, fun j t ht => by
        rw [Tryd.params17] at ht
        have hm : t ∈ [3, 3] := by simpa using Array.mem_of_getElem? ht
        have hall : ([3, 3].all fun u => !Tryd.prog.wantsStandIn u) = true := by kernel_rfl
        exact (show Tryd.prog.wantsStandIn t = false by simpa using List.all_eq_true.1 hall t hm)⟩)
    (by kernel_rfl)
end Go.Proofs.YthcpjcgjmdfpjaaDoor
