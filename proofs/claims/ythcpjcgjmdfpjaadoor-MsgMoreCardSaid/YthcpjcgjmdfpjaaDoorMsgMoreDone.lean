/- MsgMore: the statement MsgMore is proved (its card); no conditions. Here: MsgMore, MsgMoreCard. -/
import Derived.Test.YthcpjcgjmdfpjaaDoorCoreF
import Derived.Test.YthcpjcgjmdfpjaaDoorWordsSeed
import Derived.Test.YthcpjcgjmdfpjaaDoorCoreB
import Derived.Test.YthcpjcgjmdfpjaaDoorCoreE
namespace Go.Proofs.YthcpjcgjmdfpjaaDoor
open Go Go.RowKit
set_option maxRecDepth 100000
set_option maxHeartbeats 4000000

theorem msgMore_any (id : Int) (A : Option Addr) (m c : Nat) (l : List SeedV) (A2 : Option Addr) (m2 c2 : Nat) (mo : List UInt8) (w0 : World) (hL : Sl SeedV.cells 20 w0 A m l) (hO : ∀ s ∈ l, s.Ok) (hmc : m ≤ c) (hcm : c ≤ maxLen) (hG : Glob w0) (hSm : Src w0 A2 m2 c2 mo) (hA2 : A2 = none → c2 = 0) : Calls Tryd.prog 20 #[.int .i64 id, .slice A m c, .slice A2 m2 c2] w0 fun e w' => e = .returned (.bool true) ∧ Chg (fun _ => False) w0 w' := by
  have hC := Chg.refl (fun _ => False) w0
  have hlm := hL.1
  have hmx : maxLen = 9223372036854775807 := rfl
  have hml := hSm.len
  refine calls_cw (args := [.int .i64 id, .slice A m c, .slice A2 m2 c2]) Tryd.func20 rfl rfl ?_
  show CW _ _ _ 48 [(0, .int .i64 id), (1, .slice A m c), (2, .slice A2 m2 c2)] w0
  refine CW.rseq ?_
  refine WL.op (by decide) (R.assign rfl) ?_
  refine WL.next ?_
  refine CW.seq ?_
  refine CW.rseq ?_
  refine WL.eff rfl (OP.call (by decide) Tryd.func29 (by kernel_rfl) (by kernel_rfl) rfl (fit04_any _ (hG.keep0 hC)) ?_)
  rintro ed w1 ⟨rfl, hc_w1⟩
  refine ⟨_, rfl, ?_⟩
  have hC := hC.trans hc_w1
  have hz_w1 := hc_w1.size
  refine WL.op (by decide) (R.not rfl) ?_
  refine WL.next ?_
  refine CW.condF rfl ?_
  refine CW.skip ?_
  refine EW.next ?_
  refine CW.seq ?_
  refine CW.rseq ?_
  refine WL.op (by decide) (R.move rfl) ?_
  refine WL.eff rfl (OP.call (by decide) Tryd.func36 (by kernel_rfl) (by kernel_rfl) rfl (light_any _ _ _ _ _ (hL.keep0 hC) hO (by omega)) ?_)
  rintro ed w2 ⟨rfl, hc_w2⟩
  have hC := hC.trans hc_w2
  have hz_w2 := hc_w2.size
  cases hli : lightS l
  · skip
    refine ⟨_, rfl, ?_⟩
    refine WL.op (by decide) (R.not rfl) ?_
    refine WL.op (by decide) (R.move rfl) ?_
    refine WL.pass (by decide) rfl rfl rfl ?_
    refine WL.pass (by decide) rfl rfl rfl ?_
    refine WL.pass (by decide) rfl rfl rfl ?_
    refine WL.op (by decide) (R.pickT rfl rfl) ?_
    refine WL.op (by decide) (R.move rfl) ?_
    refine WL.pass (by decide) rfl rfl rfl ?_
    refine WL.pass (by decide) rfl rfl rfl ?_
    refine WL.pass (by decide) rfl rfl rfl ?_
    refine WL.op (by decide) (R.pickT rfl rfl) ?_
    refine WL.next ?_
    refine CW.condT rfl ?_
    refine CW.rseq ?_
    refine WL.op (by decide) (R.assign rfl) ?_
    refine WL.next ?_
    refine CW.ret ?_
    refine EW.thenRet ?_
    exact EW.ret1 (.inl rfl) rfl rfl ⟨rfl, hC⟩
  · skip
    refine ⟨_, rfl, ?_⟩
    refine WL.op (by decide) (R.not rfl) ?_
    refine WL.op (by decide) (R.move rfl) ?_
    refine WL.gop (by decide) rfl rfl rfl (R.move rfl) ?_
    refine WL.gop (by decide) rfl rfl rfl (R.lenSlice rfl Tryd.underlying48 rfl) ?_
    refine WL.gsplit _ (by decide) rfl rfl rfl (R.eqlD rfl rfl) (fun h1 => ?_) (fun h1 => ?_)
    · skip
      refine WL.op (by decide) (R.pickF rfl rfl) ?_
      refine WL.op (by decide) (R.move rfl) ?_
      refine WL.pass (by decide) rfl rfl rfl ?_
      refine WL.pass (by decide) rfl rfl rfl ?_
      refine WL.pass (by decide) rfl rfl rfl ?_
      refine WL.op (by decide) (R.pickT rfl rfl) ?_
      refine WL.next ?_
      refine CW.condT rfl ?_
      refine CW.rseq ?_
      refine WL.op (by decide) (R.assign rfl) ?_
      refine WL.next ?_
      refine CW.ret ?_
      refine EW.thenRet ?_
      exact EW.ret1 (.inl rfl) rfl rfl ⟨rfl, hC⟩
    · skip
      refine WL.op (by decide) (R.pickF rfl rfl) ?_
      refine WL.op (by decide) (R.move rfl) ?_
      refine WL.gop (by decide) rfl rfl rfl (R.move rfl) ?_
      refine WL.gop (by decide) rfl rfl rfl (R.lenSlice rfl Tryd.underlying36 rfl) ?_
      refine WL.gsplit _ (by decide) rfl rfl rfl (R.gtrD rfl rfl) (fun h2 => ?_) (fun h2 => ?_)
      · skip
        refine WL.op (by decide) (R.pickF rfl rfl) ?_
        refine WL.next ?_
        refine CW.condT rfl ?_
        refine CW.rseq ?_
        refine WL.op (by decide) (R.assign rfl) ?_
        refine WL.next ?_
        refine CW.ret ?_
        refine EW.thenRet ?_
        exact EW.ret1 (.inl rfl) rfl rfl ⟨rfl, hC⟩
      · skip
        refine WL.op (by decide) (R.pickF rfl rfl) ?_
        refine WL.next ?_
        refine CW.condF rfl ?_
        refine CW.skip ?_
        refine EW.next ?_
        refine CW.seq ?_
        obtain ⟨q, hq⟩ : ∃ q, l[0]? = some q := ⟨l[0]'(by omega), List.getElem?_eq_getElem _⟩
        obtain ⟨_, g0, o0, hA0, _⟩ := (hL.keep0 hC).at hq
        subst hA0
        have hq16 := (hO q (List.mem_of_getElem? hq)).a
        refine CW.draw (fun w => True) (by kernel_rfl) ?_
        have hc_w3 : Chg (fun _ => False) w2 w2.drew := Chg.drew _ _
        obtain ⟨w3, he_w3⟩ : ∃ w, w = w2.drew := ⟨_, rfl⟩
        rw [← he_w3] at hc_w3 ⊢
        have hC := hC.trans hc_w3
        have hz_w3 := hc_w3.size
        refine AH.take 0 rfl (by kernel_rfl) (by kernel_rfl) (by kernel_rfl) (fun _ _ _ _ h => h) (trivial) (by decide) (fun w hS => R.move rfl) ?_
        refine AH.take 1 rfl (by kernel_rfl) (by kernel_rfl) (by kernel_rfl) (fun _ _ _ _ h => h) (trivial) (by decide) (fun w hS => R.move rfl) ?_
        refine AH.take 2 rfl (by kernel_rfl) (by kernel_rfl) (by kernel_rfl) (fun _ _ _ _ h => h) (trivial) (by decide) (fun w hS => R.move rfl) ?_
        refine AH.take 3 rfl (by kernel_rfl) (by kernel_rfl) (by kernel_rfl) (fun _ _ _ _ h => h) (trivial) (by decide) (fun w hS => R.indexAddr1 (i := 0) Tryd.underlying48 sz50 rfl rfl rfl (by omega)) ?_
        refine AH.take 5 rfl (by kernel_rfl) (by kernel_rfl) (by kernel_rfl) (fun _ _ _ _ h => h) (trivial) (by decide) (fun w hS => R.move rfl) ?_
        refine AH.take 6 rfl (by kernel_rfl) (by kernel_rfl) (by kernel_rfl) (fun _ _ _ _ h => h) (trivial) (by decide) (fun w hS => R.sliceTail Tryd.underlying48 sz50 rfl rfl rfl (by omega) hmc) ?_
        refine AH.either 4 8 (by kernel_rfl) rfl rfl rfl rfl ?_ ?_
        · skip
          refine (OP.val (by decide) (R.loadSdAt hq16 rfl ((hL.keep0 hC).cellsAt hq)) ?_)
          refine ⟨trivial, ?_⟩
          refine AH.either 7 8 (by kernel_rfl) rfl rfl rfl rfl ?_ ?_
          · skip
            refine (OP.call (by decide) Tryd.func28 (by kernel_rfl) (by kernel_rfl) rfl (message_any _ _ _ _ _ _ (l.drop 1) _ (hO _ (List.mem_of_getElem? hq)) ((hL.keep0 hC).tail hmc (by omega)) (tail_ok hO) (by omega)) ?_)
            rintro ed w4 ⟨hc_w4, vM, rfl, vaM, vbM, rfl, hvaM, hvbM, hoaM, hobM⟩
            obtain ⟨AaM, caM, rfl, _⟩ := hvaM.form
            obtain ⟨AbM, cbM, rfl, _⟩ := hvbM.form
            obtain ⟨M, hM0⟩ : ∃ M, M = msgS id id q (l.drop 1) := ⟨_, rfl⟩
            have hbM : MBack M := by rw [hM0]; exact MBack.seeds (tail_16 hO)
            rw [← hM0] at hvaM hvbM hoaM hobM ⊢
            refine ⟨_, rfl, ?_⟩
            have hC := hC.trans hc_w4
            have hz_w4 := hc_w4.size
            have hK4 : Chg (fun _ => False) w4 w4 := Chg.refl _ _
            refine ⟨trivial, ?_⟩
            refine AH.eff 8 (by kernel_rfl) rfl rfl (OP.allocM (by decide) ?_)
            intro w5 hc_w5 hs_w5 hB7
            obtain ⟨b7, he_b7⟩ : ∃ b, b = w4.heap.size := ⟨_, rfl⟩
            rw [← he_b7] at hB7 ⊢
            have hC := hC.trans hc_w5
            have hK4 := hK4.trans hc_w5
            have hz_w5 := hc_w5.size
            refine ⟨trivial, ?_⟩
            refine AH.eff 9 (by kernel_rfl) rfl rfl (OP.storeM rfl rfl hB7 ?_)
            intro w6 hc_w6 hs_w6 hB7
            have hC := hC.thenB hc_w6 (by omega)
            have hK4 := hK4.thenB hc_w6 (by omega)
            refine ⟨trivial, ?_⟩
            refine AH.done (by kernel_rfl) ?_
            refine EW.next ?_
            refine CW.rseq ?_
            refine WL.op (by decide) (R.loadM rfl hB7) ?_
            refine WL.eff rfl (OP.call (by decide) Tryd.func24 (by kernel_rfl) (by kernel_rfl) rfl (encode_src _ _ _ ⟨_, _, rfl, (hvaM.keep0 hK4), (hvbM.keep0 hK4)⟩ (hbM)) ?_)
            rintro ed w7 ⟨gE, ceE, bsE, rfl, hbsE, hBufE, hSrcE, hmoreE, hdecE, hblE, hgeE, hglE, hc_w7⟩
            refine ⟨_, rfl, ?_⟩
            have hB7 := hc_w7.at hB7 (fun e => e)
            have hC := hC.trans hc_w7
            have hK4 := hK4.trans hc_w7
            have hz_w7 := hc_w7.size
            have hK7 : Chg (fun _ => False) w7 w7 := Chg.refl _ _
            refine WL.op (by decide) (R.move rfl) ?_
            refine WL.eff rfl (OP.appendSrc (by decide) rfl rfl (hBufE.keep0 hK7) (hSm.keep0 hC) hA2 (by omega) (by omega) ?_)
            intro v2 w8 hB2 hMv
            obtain ⟨g2, ce2, rfl, hSrc2, hc_w8, hgl2⟩ := appended (ne_of_dec hdecE) hB2 hMv (by omega)
            have hl2 : (bsE ++ mo).length = bsE.length + mo.length := List.length_append
            have hz_w8 := hc_w8.size
            have hB7 := hc_w8.at hB7 (fun e => by omega)
            have hC := hC.thenB hc_w8 (by omega)
            have hK4 := hK4.thenB hc_w8 (by omega)
            have hK8 : Chg (fun _ => False) w8 w8 := Chg.refl _ _
            refine WL.eff rfl (OP.call (by decide) Tryd.func27 (by kernel_rfl) (by kernel_rfl) rfl (decode_any _ _ _ _ _ (hSrc2.keep0 hK8) (by rintro _ _ ⟨⟩; omega) (by omega) (hG.keep0 hC)) ?_)
            rintro ed w9 ⟨hc_w9, hres⟩
            rw [(hmoreE mo)] at hres
            obtain ⟨vD, rfl, vaD, vbD, rfl, hvaD, hvbD, hoaD, hobD⟩ := hres
            obtain ⟨AaD, caD, rfl, _⟩ := hvaD.form
            obtain ⟨AbD, cbD, rfl, _⟩ := hvbD.form
            have hlenD := len_dec (hmoreE mo)
            refine ⟨_, rfl, ?_⟩
            have hB7 := hc_w9.at hB7 (fun e => e)
            have hC := hC.trans hc_w9
            have hK4 := hK4.trans hc_w9
            have hK8 := hK8.trans hc_w9
            have hz_w9 := hc_w9.size
            have hK9 : Chg (fun _ => False) w9 w9 := Chg.refl _ _
            refine WL.op (by decide) (R.move rfl) ?_
            refine WL.op (by decide) (R.extract rfl rfl) ?_
            refine WL.op (by decide) (R.extract rfl rfl) ?_
            refine WL.eff rfl (OP.allocM (by decide) ?_)
            intro w10 hc_w10 hs_w10 hB8
            obtain ⟨b8, he_b8⟩ : ∃ b, b = w9.heap.size := ⟨_, rfl⟩
            rw [← he_b8] at hB8 ⊢
            have hB7 := hc_w10.at hB7 (fun e => e)
            have hC := hC.trans hc_w10
            have hK4 := hK4.trans hc_w10
            have hK8 := hK8.trans hc_w10
            have hK9 := hK9.trans hc_w10
            have hz_w10 := hc_w10.size
            refine WL.eff rfl (OP.storeM rfl rfl hB8 ?_)
            intro w11 hc_w11 hs_w11 hB8
            have hB7 := hc_w11.at hB7 (fun e => by omega)
            have hC := hC.thenB hc_w11 (by omega)
            have hK4 := hK4.thenB hc_w11 (by omega)
            have hK8 := hK8.thenB hc_w11 (by omega)
            have hK9 := hK9.thenB hc_w11 (by omega)
            refine WL.op (by decide) (R.assign rfl) ?_
            refine WL.next ?_
            refine CW.rseq ?_
            refine WL.op (by decide) (R.move rfl) ?_
            refine WL.op (by decide) (R.eql rfl rfl (decide_eq_true (rfl))) ?_
            refine WL.op (by decide) (R.move rfl) ?_
            refine WL.gop (by decide) rfl rfl rfl (R.loadM rfl hB8) ?_
            refine WL.gop (by decide) rfl rfl rfl (R.loadM rfl hB7) ?_
            refine WL.geff rfl rfl rfl (OP.call (by decide) Tryd.func25 (by kernel_rfl) (by kernel_rfl) rfl (same_any _ _ _ _ _ ⟨_, _, rfl, (hvaD.keep0 hK9), (hvbD.keep0 hK9)⟩ ⟨_, _, rfl, (hvaM.keep0 hK4), (hvbM.keep0 hK4)⟩ hlenD.1 hlenD.2) ?_)
            rintro ed w12 ⟨rfl, hc_w12⟩
            rw [sameM_self]
            refine ⟨_, rfl, ?_⟩
            have hB7 := hc_w12.at hB7 (fun e => e)
            have hB8 := hc_w12.at hB8 (fun e => e)
            have hC := hC.trans hc_w12
            have hK4 := hK4.trans hc_w12
            have hK8 := hK8.trans hc_w12
            have hK9 := hK9.trans hc_w12
            have hz_w12 := hc_w12.size
            refine WL.op (by decide) (R.pickT rfl rfl) ?_
            refine WL.op (by decide) (R.assign rfl) ?_
            refine WL.next ?_
            refine CW.ret ?_
            exact EW.ret1 (.inl rfl) rfl rfl ⟨rfl, hC⟩
          · skip
            refine (OP.allocM (by decide) ?_)
            intro w13 hc_w13 hs_w13 hB7
            obtain ⟨b7, he_b7⟩ : ∃ b, b = w3.heap.size := ⟨_, rfl⟩
            rw [← he_b7] at hB7 ⊢
            have hC := hC.trans hc_w13
            have hz_w13 := hc_w13.size
            refine ⟨trivial, ?_⟩
            refine AH.eff 7 (by kernel_rfl) rfl rfl (OP.call (by decide) Tryd.func28 (by kernel_rfl) (by kernel_rfl) rfl (message_any _ _ _ _ _ _ (l.drop 1) _ (hO _ (List.mem_of_getElem? hq)) ((hL.keep0 hC).tail hmc (by omega)) (tail_ok hO) (by omega)) ?_)
            rintro ed w14 ⟨hc_w14, vM, rfl, vaM, vbM, rfl, hvaM, hvbM, hoaM, hobM⟩
            obtain ⟨AaM, caM, rfl, _⟩ := hvaM.form
            obtain ⟨AbM, cbM, rfl, _⟩ := hvbM.form
            obtain ⟨M, hM0⟩ : ∃ M, M = msgS id id q (l.drop 1) := ⟨_, rfl⟩
            have hbM : MBack M := by rw [hM0]; exact MBack.seeds (tail_16 hO)
            rw [← hM0] at hvaM hvbM hoaM hobM ⊢
            refine ⟨_, rfl, ?_⟩
            have hB7 := hc_w14.at hB7 (fun e => e)
            have hC := hC.trans hc_w14
            have hz_w14 := hc_w14.size
            have hK14 : Chg (fun _ => False) w14 w14 := Chg.refl _ _
            refine ⟨trivial, ?_⟩
            refine AH.eff 9 (by kernel_rfl) rfl rfl (OP.storeM rfl rfl hB7 ?_)
            intro w15 hc_w15 hs_w15 hB7
            have hC := hC.thenB hc_w15 (by omega)
            have hvaM := (hvaM.keep0 hK14).kept hc_w15 (fun k e1 e2 => by have := hoaM k e1; omega)
            have hvbM := (hvbM.keep0 hK14).kept hc_w15 (fun k e1 e2 => by have := hobM k e1; omega)
            have hK15 : Chg (fun _ => False) w15 w15 := Chg.refl _ _
            refine ⟨trivial, ?_⟩
            refine AH.done (by kernel_rfl) ?_
            refine EW.next ?_
            refine CW.rseq ?_
            refine WL.op (by decide) (R.loadM rfl hB7) ?_
            refine WL.eff rfl (OP.call (by decide) Tryd.func24 (by kernel_rfl) (by kernel_rfl) rfl (encode_src _ _ _ ⟨_, _, rfl, (hvaM.keep0 hK15), (hvbM.keep0 hK15)⟩ (hbM)) ?_)
            rintro ed w16 ⟨gE, ceE, bsE, rfl, hbsE, hBufE, hSrcE, hmoreE, hdecE, hblE, hgeE, hglE, hc_w16⟩
            refine ⟨_, rfl, ?_⟩
            have hB7 := hc_w16.at hB7 (fun e => e)
            have hC := hC.trans hc_w16
            have hK15 := hK15.trans hc_w16
            have hz_w16 := hc_w16.size
            have hK16 : Chg (fun _ => False) w16 w16 := Chg.refl _ _
            refine WL.op (by decide) (R.move rfl) ?_
            refine WL.eff rfl (OP.appendSrc (by decide) rfl rfl (hBufE.keep0 hK16) (hSm.keep0 hC) hA2 (by omega) (by omega) ?_)
            intro v2 w17 hB2 hMv
            obtain ⟨g2, ce2, rfl, hSrc2, hc_w17, hgl2⟩ := appended (ne_of_dec hdecE) hB2 hMv (by omega)
            have hl2 : (bsE ++ mo).length = bsE.length + mo.length := List.length_append
            have hz_w17 := hc_w17.size
            have hB7 := hc_w17.at hB7 (fun e => by omega)
            have hC := hC.thenB hc_w17 (by omega)
            have hK15 := hK15.thenB hc_w17 (by omega)
            have hK17 : Chg (fun _ => False) w17 w17 := Chg.refl _ _
            refine WL.eff rfl (OP.call (by decide) Tryd.func27 (by kernel_rfl) (by kernel_rfl) rfl (decode_any _ _ _ _ _ (hSrc2.keep0 hK17) (by rintro _ _ ⟨⟩; omega) (by omega) (hG.keep0 hC)) ?_)
            rintro ed w18 ⟨hc_w18, hres⟩
            rw [(hmoreE mo)] at hres
            obtain ⟨vD, rfl, vaD, vbD, rfl, hvaD, hvbD, hoaD, hobD⟩ := hres
            obtain ⟨AaD, caD, rfl, _⟩ := hvaD.form
            obtain ⟨AbD, cbD, rfl, _⟩ := hvbD.form
            have hlenD := len_dec (hmoreE mo)
            refine ⟨_, rfl, ?_⟩
            have hB7 := hc_w18.at hB7 (fun e => e)
            have hC := hC.trans hc_w18
            have hK15 := hK15.trans hc_w18
            have hK17 := hK17.trans hc_w18
            have hz_w18 := hc_w18.size
            have hK18 : Chg (fun _ => False) w18 w18 := Chg.refl _ _
            refine WL.op (by decide) (R.move rfl) ?_
            refine WL.op (by decide) (R.extract rfl rfl) ?_
            refine WL.op (by decide) (R.extract rfl rfl) ?_
            refine WL.eff rfl (OP.allocM (by decide) ?_)
            intro w19 hc_w19 hs_w19 hB8
            obtain ⟨b8, he_b8⟩ : ∃ b, b = w18.heap.size := ⟨_, rfl⟩
            rw [← he_b8] at hB8 ⊢
            have hB7 := hc_w19.at hB7 (fun e => e)
            have hC := hC.trans hc_w19
            have hK15 := hK15.trans hc_w19
            have hK17 := hK17.trans hc_w19
            have hK18 := hK18.trans hc_w19
            have hz_w19 := hc_w19.size
            refine WL.eff rfl (OP.storeM rfl rfl hB8 ?_)
            intro w20 hc_w20 hs_w20 hB8
            have hB7 := hc_w20.at hB7 (fun e => by omega)
            have hC := hC.thenB hc_w20 (by omega)
            have hK15 := hK15.thenB hc_w20 (by omega)
            have hK17 := hK17.thenB hc_w20 (by omega)
            have hK18 := hK18.thenB hc_w20 (by omega)
            refine WL.op (by decide) (R.assign rfl) ?_
            refine WL.next ?_
            refine CW.rseq ?_
            refine WL.op (by decide) (R.move rfl) ?_
            refine WL.op (by decide) (R.eql rfl rfl (decide_eq_true (rfl))) ?_
            refine WL.op (by decide) (R.move rfl) ?_
            refine WL.gop (by decide) rfl rfl rfl (R.loadM rfl hB8) ?_
            refine WL.gop (by decide) rfl rfl rfl (R.loadM rfl hB7) ?_
            refine WL.geff rfl rfl rfl (OP.call (by decide) Tryd.func25 (by kernel_rfl) (by kernel_rfl) rfl (same_any _ _ _ _ _ ⟨_, _, rfl, (hvaD.keep0 hK18), (hvbD.keep0 hK18)⟩ ⟨_, _, rfl, (hvaM.keep0 hK15), (hvbM.keep0 hK15)⟩ hlenD.1 hlenD.2) ?_)
            rintro ed w21 ⟨rfl, hc_w21⟩
            rw [sameM_self]
            refine ⟨_, rfl, ?_⟩
            have hB7 := hc_w21.at hB7 (fun e => e)
            have hB8 := hc_w21.at hB8 (fun e => e)
            have hC := hC.trans hc_w21
            have hK15 := hK15.trans hc_w21
            have hK17 := hK17.trans hc_w21
            have hK18 := hK18.trans hc_w21
            have hz_w21 := hc_w21.size
            refine WL.op (by decide) (R.pickT rfl rfl) ?_
            refine WL.op (by decide) (R.assign rfl) ?_
            refine WL.next ?_
            refine CW.ret ?_
            exact EW.ret1 (.inl rfl) rfl rfl ⟨rfl, hC⟩
        · skip
          refine (OP.allocM (by decide) ?_)
          intro w22 hc_w22 hs_w22 hB7
          obtain ⟨b7, he_b7⟩ : ∃ b, b = w3.heap.size := ⟨_, rfl⟩
          rw [← he_b7] at hB7 ⊢
          have hC := hC.trans hc_w22
          have hz_w22 := hc_w22.size
          refine ⟨trivial, ?_⟩
          refine AH.eff 4 (by kernel_rfl) rfl rfl (OP.val (by decide) (R.loadSdAt hq16 rfl ((hL.keep0 hC).cellsAt hq)) ?_)
          refine ⟨trivial, ?_⟩
          refine AH.eff 7 (by kernel_rfl) rfl rfl (OP.call (by decide) Tryd.func28 (by kernel_rfl) (by kernel_rfl) rfl (message_any _ _ _ _ _ _ (l.drop 1) _ (hO _ (List.mem_of_getElem? hq)) ((hL.keep0 hC).tail hmc (by omega)) (tail_ok hO) (by omega)) ?_)
          rintro ed w23 ⟨hc_w23, vM, rfl, vaM, vbM, rfl, hvaM, hvbM, hoaM, hobM⟩
          obtain ⟨AaM, caM, rfl, _⟩ := hvaM.form
          obtain ⟨AbM, cbM, rfl, _⟩ := hvbM.form
          obtain ⟨M, hM0⟩ : ∃ M, M = msgS id id q (l.drop 1) := ⟨_, rfl⟩
          have hbM : MBack M := by rw [hM0]; exact MBack.seeds (tail_16 hO)
          rw [← hM0] at hvaM hvbM hoaM hobM ⊢
          refine ⟨_, rfl, ?_⟩
          have hB7 := hc_w23.at hB7 (fun e => e)
          have hC := hC.trans hc_w23
          have hz_w23 := hc_w23.size
          have hK23 : Chg (fun _ => False) w23 w23 := Chg.refl _ _
          refine ⟨trivial, ?_⟩
          refine AH.eff 9 (by kernel_rfl) rfl rfl (OP.storeM rfl rfl hB7 ?_)
          intro w24 hc_w24 hs_w24 hB7
          have hC := hC.thenB hc_w24 (by omega)
          have hvaM := (hvaM.keep0 hK23).kept hc_w24 (fun k e1 e2 => by have := hoaM k e1; omega)
          have hvbM := (hvbM.keep0 hK23).kept hc_w24 (fun k e1 e2 => by have := hobM k e1; omega)
          have hK24 : Chg (fun _ => False) w24 w24 := Chg.refl _ _
          refine ⟨trivial, ?_⟩
          refine AH.done (by kernel_rfl) ?_
          refine EW.next ?_
          refine CW.rseq ?_
          refine WL.op (by decide) (R.loadM rfl hB7) ?_
          refine WL.eff rfl (OP.call (by decide) Tryd.func24 (by kernel_rfl) (by kernel_rfl) rfl (encode_src _ _ _ ⟨_, _, rfl, (hvaM.keep0 hK24), (hvbM.keep0 hK24)⟩ (hbM)) ?_)
          rintro ed w25 ⟨gE, ceE, bsE, rfl, hbsE, hBufE, hSrcE, hmoreE, hdecE, hblE, hgeE, hglE, hc_w25⟩
          refine ⟨_, rfl, ?_⟩
          have hB7 := hc_w25.at hB7 (fun e => e)
          have hC := hC.trans hc_w25
          have hK24 := hK24.trans hc_w25
          have hz_w25 := hc_w25.size
          have hK25 : Chg (fun _ => False) w25 w25 := Chg.refl _ _
          refine WL.op (by decide) (R.move rfl) ?_
          refine WL.eff rfl (OP.appendSrc (by decide) rfl rfl (hBufE.keep0 hK25) (hSm.keep0 hC) hA2 (by omega) (by omega) ?_)
          intro v2 w26 hB2 hMv
          obtain ⟨g2, ce2, rfl, hSrc2, hc_w26, hgl2⟩ := appended (ne_of_dec hdecE) hB2 hMv (by omega)
          have hl2 : (bsE ++ mo).length = bsE.length + mo.length := List.length_append
          have hz_w26 := hc_w26.size
          have hB7 := hc_w26.at hB7 (fun e => by omega)
          have hC := hC.thenB hc_w26 (by omega)
          have hK24 := hK24.thenB hc_w26 (by omega)
          have hK26 : Chg (fun _ => False) w26 w26 := Chg.refl _ _
          refine WL.eff rfl (OP.call (by decide) Tryd.func27 (by kernel_rfl) (by kernel_rfl) rfl (decode_any _ _ _ _ _ (hSrc2.keep0 hK26) (by rintro _ _ ⟨⟩; omega) (by omega) (hG.keep0 hC)) ?_)
          rintro ed w27 ⟨hc_w27, hres⟩
          rw [(hmoreE mo)] at hres
          obtain ⟨vD, rfl, vaD, vbD, rfl, hvaD, hvbD, hoaD, hobD⟩ := hres
          obtain ⟨AaD, caD, rfl, _⟩ := hvaD.form
          obtain ⟨AbD, cbD, rfl, _⟩ := hvbD.form
          have hlenD := len_dec (hmoreE mo)
          refine ⟨_, rfl, ?_⟩
          have hB7 := hc_w27.at hB7 (fun e => e)
          have hC := hC.trans hc_w27
          have hK24 := hK24.trans hc_w27
          have hK26 := hK26.trans hc_w27
          have hz_w27 := hc_w27.size
          have hK27 : Chg (fun _ => False) w27 w27 := Chg.refl _ _
          refine WL.op (by decide) (R.move rfl) ?_
          refine WL.op (by decide) (R.extract rfl rfl) ?_
          refine WL.op (by decide) (R.extract rfl rfl) ?_
          refine WL.eff rfl (OP.allocM (by decide) ?_)
          intro w28 hc_w28 hs_w28 hB8
          obtain ⟨b8, he_b8⟩ : ∃ b, b = w27.heap.size := ⟨_, rfl⟩
          rw [← he_b8] at hB8 ⊢
          have hB7 := hc_w28.at hB7 (fun e => e)
          have hC := hC.trans hc_w28
          have hK24 := hK24.trans hc_w28
          have hK26 := hK26.trans hc_w28
          have hK27 := hK27.trans hc_w28
          have hz_w28 := hc_w28.size
          refine WL.eff rfl (OP.storeM rfl rfl hB8 ?_)
          intro w29 hc_w29 hs_w29 hB8
          have hB7 := hc_w29.at hB7 (fun e => by omega)
          have hC := hC.thenB hc_w29 (by omega)
          have hK24 := hK24.thenB hc_w29 (by omega)
          have hK26 := hK26.thenB hc_w29 (by omega)
          have hK27 := hK27.thenB hc_w29 (by omega)
          refine WL.op (by decide) (R.assign rfl) ?_
          refine WL.next ?_
          refine CW.rseq ?_
          refine WL.op (by decide) (R.move rfl) ?_
          refine WL.op (by decide) (R.eql rfl rfl (decide_eq_true (rfl))) ?_
          refine WL.op (by decide) (R.move rfl) ?_
          refine WL.gop (by decide) rfl rfl rfl (R.loadM rfl hB8) ?_
          refine WL.gop (by decide) rfl rfl rfl (R.loadM rfl hB7) ?_
          refine WL.geff rfl rfl rfl (OP.call (by decide) Tryd.func25 (by kernel_rfl) (by kernel_rfl) rfl (same_any _ _ _ _ _ ⟨_, _, rfl, (hvaD.keep0 hK27), (hvbD.keep0 hK27)⟩ ⟨_, _, rfl, (hvaM.keep0 hK24), (hvbM.keep0 hK24)⟩ hlenD.1 hlenD.2) ?_)
          rintro ed w30 ⟨rfl, hc_w30⟩
          rw [sameM_self]
          refine ⟨_, rfl, ?_⟩
          have hB7 := hc_w30.at hB7 (fun e => e)
          have hB8 := hc_w30.at hB8 (fun e => e)
          have hC := hC.trans hc_w30
          have hK24 := hK24.trans hc_w30
          have hK26 := hK26.trans hc_w30
          have hK27 := hK27.trans hc_w30
          have hz_w30 := hc_w30.size
          refine WL.op (by decide) (R.pickT rfl rfl) ?_
          refine WL.op (by decide) (R.assign rfl) ?_
          refine WL.next ?_
          refine CW.ret ?_
          exact EW.ret1 (.inl rfl) rfl rfl ⟨rfl, hC⟩
end Go.Proofs.YthcpjcgjmdfpjaaDoor

namespace Go.Proofs.YthcpjcgjmdfpjaaDoor
open Go Go.ChangeShapes Go.WideShapes Go.ChangeAt Go.RowKit
set_option maxRecDepth 100000

theorem msgMore_lifted (os : Os) (started : os.Started) (H : Type) (enc : TypeId × Value → H) :
    ReturnsInHanded {} Tryd.checked os 20 .any (fun w args => (Rows.msgMoreSpec.pre enc Tryd.prog Tryd.f20 [] false w args ∧ laidMetH Tryd.prog laidL w) ∧ sizedMet enc Tryd.prog Tryd.f20 (OpenSpec.ofChange Rows.msgMoreSpec) false w args)
      (Rows.msgMoreSpec.post enc Tryd.prog Tryd.f20 false true false false) := by
  refine law_lifted (s := Rows.msgMoreSpec) started Tryd.func20 (by kernel_rfl) rfl (by kernel_rfl) (by kernel_rfl) ?_ ?_
    (ChangeSpec.witness_shaped (enc := enc) (C := Tryd.checked) (os := os) (X := fun w _ => laidMetH Tryd.prog laidL w) false (World.laidAll Tryd.prog os laidL) #[.int .i64 0, .slice none 0 0, .slice none 0 0] 8 (World.laidAll_os _ _ _)
      (World.shaped_of_ZipB (by kernel_rfl) (by kernel_rfl)) (by kernel_rfl) (by kernel_rfl) (by kernel_rfl)
      (by rw [MakeChecks.laidMetH_plain _ _ _ (by kernel_rfl)]; exact laidMet_laidAll _ (by kernel_rfl) (by kernel_rfl))) ?_
  · intro ds hl
    rw [show Tryd.f20.params.size = 3 by rw [Tryd.params20]; rfl] at hl
    obtain ⟨d0, d1, d2, rfl⟩ := list3 hl
    rfl
  · intro W vs ds ps h
    exact trodAll_len h
  intro W base args ds p hval hA hlt hw hG
  rw [Tryd.params20] at hA hval hw
  obtain ⟨v0, v1, v2, d0, d1, d2, p0, p1, p2, rfl, rfl, rfl, h0, h1, h2⟩ := trodAll_three hA
  obtain ⟨id, rfl, rfl, rfl, _⟩ := open_int Tryd.underlying3 (hval 0 3 v0 rfl rfl) h0
  obtain ⟨A, m, c, l, rfl, hmc, hcm, hL, hO⟩ := open_seeds (hval 1 48 v1 rfl rfl) h1
  obtain ⟨A2, m2, c2, mo, rfl, hS2, _, hA2⟩ := open_bytesN (hval 2 36 v2 rfl rfl) h2
  exact msgMore_any id A m c l A2 m2 c2 mo W hL hO hmc hcm hG hS2 hA2

theorem msgMore_joined : joinedFacts Tryd.prog 20 Tryd.f20 Rows.msgMoreSpec Rows.msgMoreRow = true :=
  joined_of seat_mayEnter seat_lifts seat_make rfl rfl rfl rfl (by kernel_rfl) (by kernel_rfl) (by kernel_rfl) (by kernel_rfl) (by kernel_rfl) (by kernel_rfl) (by kernel_rfl) (by kernel_rfl) (by kernel_rfl) (by kernel_rfl) (by kernel_rfl) (by kernel_rfl) (by kernel_rfl) (by kernel_rfl) (by kernel_rfl) (by kernel_rfl) (by kernel_rfl) (by kernel_rfl) (by kernel_rfl) (by kernel_rfl) (by kernel_rfl) (by kernel_rfl) (by kernel_rfl) (by kernel_rfl) (by kernel_rfl) (by kernel_rfl) (by kernel_rfl) (by kernel_rfl)
theorem msgMore_holds : Rows.MsgMoreSaid :=
  OpenClaim.holds_of_wide 20 Tryd.f20 rfl rfl rfl rfl rfl rfl rfl ⟨rfl, rfl, rfl, rfl, rfl⟩ rfl rfl rfl rfl rfl (by kernel_rfl) Tryd.func20 msgMore_joined
    (of_decide_eq_true (by kernel_rfl)) (by unfold Func.isWrapper; first | (rw [if_pos (by decide +kernel)]; kernel_rfl) | (rw [if_neg (by decide +kernel)]; exact ⟨rfl, rfl⟩))
    (fun os started H enc _ => msgMore_lifted os started H enc)
theorem msgMore_card : Rows.MsgMoreCardSaid :=
  Claim7.holds_tied_plain_at .later [] [.data] true (true, "6afa14409c1fcf784e159d3dd9af9e0af6fc07a3d3e06aa2c8b4c577951ca517") false msgMore_holds (fun _ h => by cases h) (by kernel_rfl) (fun _ h => by cases h) msgMore_row_tie rfl ⟨rfl, rfl⟩ seat_main rfl
    (fun f fn hf hfn => by
      obtain rfl : f = 20 := Option.some.inj ((show Tryd.prog.funcNamed "nomenclator/nomenclatorlaw04.MsgMore" = some 20 by kernel_rfl).symm.trans hf) |>.symm
      obtain rfl : fn = Tryd.f20 := (Option.some.inj (Tryd.func20.symm.trans hfn)).symm
      exact ⟨by kernel_rfl, fun j t ht => by
        rw [Tryd.params20] at ht
        have hm : t ∈ [3, 48, 36] := by simpa using Array.mem_of_getElem? ht
        have hall : ([3, 48, 36].all fun u => !Tryd.prog.wantsStandIn u) = true := by kernel_rfl
        exact (show Tryd.prog.wantsStandIn t = false by simpa using List.all_eq_true.1 hall t hm)⟩)
    (by kernel_rfl)
end Go.Proofs.YthcpjcgjmdfpjaaDoor
