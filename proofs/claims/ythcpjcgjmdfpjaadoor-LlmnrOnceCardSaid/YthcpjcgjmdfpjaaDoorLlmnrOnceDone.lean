/- LlmnrOnce: the statement LlmnrOnce is proved (its card); no conditions. Here: LOnce, LlmnrOnceCard. -/
import Derived.Test.YthcpjcgjmdfpjaaDoorWordsLlmnr
import Derived.Test.YthcpjcgjmdfpjaaDoorCoreB
import Derived.Test.YthcpjcgjmdfpjaaDoorCoreE
namespace Go.Proofs.YthcpjcgjmdfpjaaDoor
open Go Go.RowKit
set_option maxRecDepth 100000
set_option maxHeartbeats 4000000

theorem R.neqStrF {P : Program} {l : Env} {w : World} {x y : Operand} {t ty : TypeId} {a b : List UInt8} (hx : ev l x = some (sv a)) (hy : ev l y = some (sv b)) (h : b = a) : Runs P l (.binOp .neq t x y ty) w (.bool false) w := by
  have := R.neqStr (P := P) (w := w) (t := t) (ty := ty) hx hy
  rwa [show decide (¬ a = b) = false from by simp [h]] at this
theorem llmnrOnce_any (A : Option Addr) (m c : Nat) (l : List LocalV) (id : Int) (w0 : World) (hL : Sl LocalV.cells 18 w0 A m l) (h16 : ∀ s ∈ l, s.addr.length = 16) (hG : Glob w0) : Calls Tryd.prog 12 #[.slice A m c, .int .i64 id] w0 fun e w' => e = .returned (.bool true) ∧ Chg (fun _ => False) w0 w' := by
  have hC := Chg.refl (fun _ => False) w0
  have hz16 : zero16.length = 16 := rfl
  have hlm := hL.1
  refine calls_cw (args := [.slice A m c, .int .i64 id]) Tryd.func12 rfl rfl ?_
  show CW _ _ _ 82 [(0, .slice A m c), (1, .int .i64 id)] w0
  refine CW.rseq ?_
  refine WL.op (by decide) (R.assign rfl) ?_
  refine WL.next ?_
  refine CW.seq ?_
  refine CW.rseq ?_
  refine WL.eff rfl (OP.call (by decide) Tryd.func32 (by kernel_rfl) (by kernel_rfl) rfl (fit14_any _ (hG.keep0 hC)) ?_)
  rintro ed w1 ⟨rfl, hc_w1⟩
  refine ⟨_, rfl, ?_⟩
  have hC := hC.trans hc_w1
  have hz_w1 := hc_w1.size
  refine WL.op (by decide) (R.not rfl) ?_
  refine WL.next ?_
  refine CW.condF rfl ?_
  refine CW.skip ?_
  refine EW.next ?_
  refine CW.seq ?_
  refine CW.rseq ?_
  refine WL.op (by decide) (R.move rfl) ?_
  refine WL.op (by decide) (R.lenSlice rfl Tryd.underlying63 rfl) ?_
  refine WL.gtrS (by decide) rfl rfl (fun h1 => ?_) (fun h1 => ?_)
  · skip
    refine WL.next ?_
    refine CW.condT rfl ?_
    refine CW.rseq ?_
    refine WL.op (by decide) (R.assign rfl) ?_
    refine WL.next ?_
    refine CW.ret ?_
    refine EW.thenRet ?_
    exact EW.ret1 (.inl rfl) rfl rfl ⟨rfl, hC⟩
  · skip
    refine WL.next ?_
    refine CW.condF rfl ?_
    refine CW.skip ?_
    refine EW.next ?_
    refine CW.rseq ?_
    refine WL.op (by decide) (R.move rfl) ?_
    refine WL.op (by decide) (R.mask 16 rfl rfl (by decide) rfl rfl) ?_
    refine WL.op (by decide) (R.build (parts := [(0, _), (1, _)]) (vals := [(0, _), (1, _)]) rfl (fun w => build25_2 [97] 28 w)) ?_
    refine WL.op (by decide) (R.build (parts := [(0, _), (5, _)]) (vals := [(0, _), (5, _)]) rfl (fun w => build33_05 _ [97] 28 w)) ?_
    refine WL.eff rfl (OP.call (by decide) Tryd.func24 (by kernel_rfl) (by kernel_rfl) rfl (encode_src _ _ _ ⟨_, _, rfl, (RSl.nil _), (RSl.nil _)⟩ (MBack.quest (by omega) (by decide) (by kernel_rfl) (by decide))) ?_)
    rintro ed w2 ⟨gE, ceE, bsE, rfl, hbsE, hBufE, hSrcE, hmoreE, hdecE, hblE, hgeE, hglE, hc_w2⟩
    refine ⟨_, rfl, ?_⟩
    have hC := hC.trans hc_w2
    have hz_w2 := hc_w2.size
    have hK2 : Chg (fun _ => False) w2 w2 := Chg.refl _ _
    refine WL.op (by decide) (R.assign rfl) ?_
    refine WL.next ?_
    refine CW.rseq ?_
    refine WL.op (by decide) (R.move rfl) ?_
    refine WL.op (by decide) (R.move rfl) ?_
    refine WL.eff rfl (OP.call (by decide) Tryd.func34 (by kernel_rfl) (by kernel_rfl) rfl (answer_any [97] _ _ _ l _ _ _ _ _ _ (hL.keep0 hC) h16 (by omega) (hSrcE.keep0 hK2) (by rintro _ _ ⟨⟩; omega) hblE hdecE (MBack.quest (by omega) (by decide) (by kernel_rfl) (by decide)) (hG.keep0 hC)) ?_)
    rintro ed w3 ⟨hc_w3, hres⟩
    obtain ⟨gA, ceA, bsA, rfl, hSrcA, hmoreA, hdecA, hblA, hgeA, hglA⟩ := hres.isYes rfl
    refine ⟨_, rfl, ?_⟩
    have hC := hC.trans hc_w3
    have hK2 := hK2.trans hc_w3
    have hz_w3 := hc_w3.size
    have hK3 : Chg (fun _ => False) w3 w3 := Chg.refl _ _
    refine WL.op (by decide) (R.move rfl) ?_
    refine WL.op (by decide) (R.extract rfl rfl) ?_
    refine WL.op (by decide) (R.extract rfl rfl) ?_
    refine WL.op (by decide) (R.assign rfl) ?_
    refine WL.op (by decide) (R.assign rfl) ?_
    refine WL.next ?_
    refine CW.rseq ?_
    refine WL.op (by decide) (R.move rfl) ?_
    refine WL.op (by decide) (R.move rfl) ?_
    refine WL.eff rfl (OP.call (by decide) Tryd.func34 (by kernel_rfl) (by kernel_rfl) rfl (answer_any [97] _ _ _ l _ _ _ _ _ _ (hL.keep0 hC) h16 (by omega) (hSrcA.keep0 hK3) (by rintro _ _ ⟨⟩; omega) hblA hdecA (ans_back (MBack.quest (by omega) (by decide) (by kernel_rfl) (by decide)) rfl (by omega) h16) (hG.keep0 hC)) ?_)
    rintro ed w4 ⟨hc_w4, hres⟩
    obtain rfl := hres.isNo rfl
    refine ⟨_, rfl, ?_⟩
    have hC := hC.trans hc_w4
    have hK2 := hK2.trans hc_w4
    have hK3 := hK3.trans hc_w4
    have hz_w4 := hc_w4.size
    refine WL.op (by decide) (R.move rfl) ?_
    refine WL.op (by decide) (R.extract rfl rfl) ?_
    refine WL.op (by decide) (R.extract rfl rfl) ?_
    refine WL.op (by decide) (R.assign rfl) ?_
    refine WL.op (by decide) (R.assign rfl) ?_
    refine WL.next ?_
    refine CW.rseq ?_
    refine WL.op (by decide) (R.move rfl) ?_
    refine WL.eff rfl (OP.call (by decide) Tryd.func27 (by kernel_rfl) (by kernel_rfl) rfl (decode_any _ _ _ _ _ (hSrcA.keep0 hK3) (by rintro _ _ ⟨⟩; omega) (by omega) (hG.keep0 hC)) ?_)
    rintro ed w5 ⟨hc_w5, hres⟩
    rw [hdecA] at hres
    obtain ⟨vD, rfl, vaD, vbD, rfl, hvaD, hvbD, hoaD, hobD⟩ := hres
    obtain ⟨AaD, caD, rfl, _⟩ := hvaD.form
    obtain ⟨AbD, cbD, rfl, _⟩ := hvbD.form
    have hlenD := len_dec hdecA
    refine ⟨_, rfl, ?_⟩
    have hC := hC.trans hc_w5
    have hK2 := hK2.trans hc_w5
    have hK3 := hK3.trans hc_w5
    have hz_w5 := hc_w5.size
    have hK5 : Chg (fun _ => False) w5 w5 := Chg.refl _ _
    refine WL.op (by decide) (R.move rfl) ?_
    refine WL.op (by decide) (R.extract rfl rfl) ?_
    refine WL.op (by decide) (R.extract rfl rfl) ?_
    refine WL.eff rfl (OP.allocM (by decide) ?_)
    intro w6 hc_w6 hs_w6 hB10
    obtain ⟨b10, he_b10⟩ : ∃ b, b = w5.heap.size := ⟨_, rfl⟩
    rw [← he_b10] at hB10 ⊢
    have hC := hC.trans hc_w6
    have hK2 := hK2.trans hc_w6
    have hK3 := hK3.trans hc_w6
    have hK5 := hK5.trans hc_w6
    have hz_w6 := hc_w6.size
    refine WL.eff rfl (OP.storeM rfl rfl hB10 ?_)
    intro w7 hc_w7 hs_w7 hB10
    have hC := hC.thenB hc_w7 (by omega)
    have hK2 := hK2.thenB hc_w7 (by omega)
    have hK3 := hK3.thenB hc_w7 (by omega)
    have hK5 := hK5.thenB hc_w7 (by omega)
    refine WL.op (by decide) (R.assign rfl) ?_
    refine WL.next ?_
    refine CW.seq ?_
    refine CW.rseq ?_
    refine WL.op (by decide) (FA33_6 rfl) ?_
    refine WL.op (by decide) (R.load Tryd.underlying31 rfl rfl (cell_at hB10 rfl)) ?_
    refine WL.op (by decide) (R.lenSlice rfl Tryd.underlying31 rfl) ?_
    refine WL.op (by decide) (R.move rfl) ?_
    refine WL.next ?_
    refine CW.block ?_
    refine CW.loopK [0, 1, 7, 9, 10, 11, 42, 43, 44] (fun k le wr => Chg (fun _ => False) w0 wr ∧ Chg (fun _ => False) w5 wr ∧ ∃ (j : Nat) (jj : Int), j + k = (ansL [97] 28 l).length ∧ jj = (j : Int) ∧ le = [(0, .slice A m c), (1, .int .i64 id), (7, .bool true), (9, .bool false), (10, .pointer (some ⟨b10, 0, none⟩)), (11, .int .i64 0), (42, .slice AaD (ansL [97] 28 l).length caD), (43, .int .i64 ((ansL [97] 28 l).length : Nat)), (44, .int .i64 jj)] ∧ BM wr b10 (ansM [97] ⟨id % ((2 ^ 16 : Nat) : Int), false, false, false, 0, [97], 28, [], []⟩ l) (.slice AaD (ansL [97] 28 l).length caD) (.slice AbD (ansM [97] ⟨id % ((2 ^ 16 : Nat) : Int), false, false, false, 0, [97], 28, [], []⟩ l).auth.length cbD) ∧ b10 < wr.heap.size) ((ansL [97] 28 l).length) ?_ ?_
    · exact ⟨hC, hK5, 0, 0, by omega, rfl, rfl, hB10, by omega⟩
    · rintro k le wr ⟨hC, hK5, j, jj, hk, rfl, rfl, hB10, hb10⟩
      have hz_hC := hC.size
      have hz_hK5 := hK5.size
      refine CW.rseq ?_
      refine WL.lssS (by decide) rfl rfl (fun h2 => ?_) (fun h2 => ?_)
      · skip
        refine WL.next ?_
        refine CW.seq ?_
        refine CW.condT rfl ?_
        refine CW.skip ?_
        refine EW.next ?_
        refine CW.seq ?_
        refine CW.block ?_
        refine CW.rseq ?_
        obtain ⟨r, hr⟩ : ∃ r, (ansL [97] 28 l)[j]? = some r := ⟨(ansL [97] 28 l)[j]'(by omega), List.getElem?_eq_getElem _⟩
        obtain ⟨hr16, _, gr, orr, hAr, hcr⟩ := RSl.at (rs := ansL [97] 28 l) (hvaD.keep0 hK5) hr
        subst hAr
        obtain ⟨s, hsm, hf, rfl⟩ := ansL_mem (List.mem_of_getElem? hr)
        have h4f : is4 (recL [97] 28 s).addr = false := by simpa [fits, recL] using hf
        refine WL.op (by decide) (R.indexAddr1 (i := j) Tryd.underlying31 sz57 rfl rfl rfl (by omega)) ?_
        refine WL.op (by decide) (R.loadR hr16 rfl hcr) ?_
        refine WL.eff rfl (OP.allocR (by decide) ?_)
        intro w8 hc_w8 hs_w8 hB13
        obtain ⟨b13, he_b13⟩ : ∃ b, b = wr.heap.size := ⟨_, rfl⟩
        rw [← he_b13] at hB13 ⊢
        have hB10 := hc_w8.at hB10 (fun e => e)
        have hC := hC.trans hc_w8
        have hK5 := hK5.trans hc_w8
        have hz_w8 := hc_w8.size
        refine WL.eff rfl (OP.storeR rfl rfl (by first | assumption | rfl) (by first | assumption | rfl) hB13 ?_)
        intro w9 hc_w9 hs_w9 hB13
        have hB10 := hc_w9.at hB10 (fun e => by omega)
        have hC := hC.thenB hc_w9 (by omega)
        have hK5 := hK5.thenB hc_w9 (by omega)
        refine WL.next ?_
        refine CW.seq ?_
        have hB13_d := hB13
        refine CW.draw (fun w => w.heap[b13]? = w9.heap[b13]?) (by kernel_rfl) ?_
        have hc_w10 : Chg (fun _ => False) w9 w9.drew := Chg.drew _ _
        obtain ⟨w10, he_w10⟩ : ∃ w, w = w9.drew := ⟨_, rfl⟩
        rw [← he_w10] at hc_w10 ⊢
        have hB10 := hc_w10.at hB10 (fun e => e)
        have hB13 := hc_w10.at hB13 (fun e => e)
        have hC := hC.trans hc_w10
        have hK5 := hK5.trans hc_w10
        have hz_w10 := hc_w10.size
        refine AH.take 0 rfl (by kernel_rfl) (by kernel_rfl) (by kernel_rfl) (fun _ _ _ _ h => h) (hB13.trans hB13_d.symm) (by decide) (fun w hS => FA57_3 rfl) ?_
        refine AH.take 1 rfl (by kernel_rfl) (by kernel_rfl) (by kernel_rfl) (fun _ _ _ _ h => h) (hB13.trans hB13_d.symm) (by decide) (fun w hS => R.loadRA (k := 0) hr16 rfl (fun i u hi => cell_at (hS.trans hB13_d) (by rw [Nat.zero_add, List.getElem?_toArray]; exact hi))) ?_
        refine AH.eff 2 (by kernel_rfl) rfl rfl (OP.call (by decide) Tryd.func35 (by kernel_rfl) (by kernel_rfl) rfl (is4_any _ _ hr16) ?_)
        rintro ed w11 ⟨rfl, hc_w11⟩
        rw [h4f]
        refine ⟨_, rfl, ?_⟩
        have hB10 := hc_w11.at hB10 (fun e => e)
        have hB13 := hc_w11.at hB13 (fun e => e)
        have hC := hC.trans hc_w11
        have hK5 := hK5.trans hc_w11
        have hz_w11 := hc_w11.size
        refine ⟨hB13.trans hB13_d.symm, ?_⟩
        refine AH.take 3 rfl (by kernel_rfl) (by kernel_rfl) (by kernel_rfl) (fun _ _ _ _ h => h) (hB13.trans hB13_d.symm) (by decide) (fun w hS => R.move rfl) ?_
        refine AH.takeG 4 rfl (by kernel_rfl) (by kernel_rfl) (by kernel_rfl) (fun _ _ _ _ h => h) (hB13.trans hB13_d.symm) (by decide) rfl rfl rfl (fun w hS => FA57_0 rfl) ?_
        refine AH.takeG 5 rfl (by kernel_rfl) (by kernel_rfl) (by kernel_rfl) (fun _ _ _ _ h => h) (hB13.trans hB13_d.symm) (by decide) rfl rfl rfl (fun w hS => R.load Tryd.underlying9 rfl rfl (cell_at (hS.trans hB13_d) rfl)) ?_
        refine AH.effG 6 (by kernel_rfl) rfl rfl rfl rfl (OP.call (by decide) Tryd.func33 (by kernel_rfl) (by kernel_rfl) rfl (name_any _ _) ?_)
        rintro ed w12 ⟨rfl, hc_w12⟩
        refine ⟨_, rfl, ?_⟩
        have hB10 := hc_w12.at hB10 (fun e => e)
        have hB13 := hc_w12.at hB13 (fun e => e)
        have hC := hC.trans hc_w12
        have hK5 := hK5.trans hc_w12
        have hz_w12 := hc_w12.size
        refine ⟨hB13.trans hB13_d.symm, ?_⟩
        refine AH.takeG 7 rfl (by kernel_rfl) (by kernel_rfl) (by kernel_rfl) (fun _ _ _ _ h => h) (hB13.trans hB13_d.symm) (by decide) rfl rfl rfl (fun w hS => R.neqStrF (a := [97]) rfl rfl (by kernel_rfl)) ?_
        refine AH.take 8 rfl (by kernel_rfl) (by kernel_rfl) (by kernel_rfl) (fun _ _ _ _ h => h) (hB13.trans hB13_d.symm) (by decide) (fun w hS => R.pickF rfl rfl) ?_
        refine AH.done (by kernel_rfl) ?_
        refine EW.next ?_
        refine CW.condF rfl ?_
        refine CW.skip ?_
        refine EW.inNormal ?_
        refine EW.next ?_
        refine CW.region ?_
        refine WL.op (by decide) (R.add rfl rfl (by omega)) ?_
        refine WL.op (by decide) (R.move rfl) ?_
        refine WL.nil ?_
        exact EW.roundK [0, 1, 7, 9, 10, 11, 42, 43, 44] (k - 1) (by omega) ⟨hC, hK5, j + 1, _, by omega, by omega, rfl, hB10, by omega⟩
      · skip
        refine WL.next ?_
        refine CW.seq ?_
        refine CW.condF rfl ?_
        refine CW.exit ?_
        refine EW.thenExit ?_
        refine EW.thenExit ?_
        refine EW.inHere ?_
        refine EW.next ?_
        refine CW.rseq ?_
        refine WL.op (by decide) (R.move rfl) ?_
        refine WL.op (by decide) (R.move rfl) ?_
        refine WL.gop (by decide) rfl rfl rfl (R.move rfl) ?_
        refine WL.gop (by decide) rfl rfl rfl (R.not rfl) ?_
        refine WL.op (by decide) (R.pickT rfl rfl) ?_
        refine WL.op (by decide) (R.move rfl) ?_
        refine WL.gop (by decide) rfl rfl rfl (R.move rfl) ?_
        refine WL.gop (by decide) rfl rfl rfl (R.eql rfl rfl (decide_eq_true (rfl))) ?_
        refine WL.op (by decide) (R.pickT rfl rfl) ?_
        refine WL.op (by decide) (R.move rfl) ?_
        refine WL.gop (by decide) rfl rfl rfl (FA33_0 rfl) ?_
        refine WL.gop (by decide) rfl rfl rfl (R.load Tryd.underlying3 rfl rfl (cell_at hB10 rfl)) ?_
        refine WL.gop (by decide) rfl rfl rfl (R.move rfl) ?_
        refine WL.gop (by decide) rfl rfl rfl (R.mask 16 rfl rfl (by decide) rfl rfl) ?_
        refine WL.gop (by decide) rfl rfl rfl (R.eql rfl rfl (decide_eq_true (rfl))) ?_
        refine WL.op (by decide) (R.pickT rfl rfl) ?_
        refine WL.op (by decide) (R.move rfl) ?_
        refine WL.gop (by decide) rfl rfl rfl (FA33_6 rfl) ?_
        refine WL.gop (by decide) rfl rfl rfl (R.load Tryd.underlying31 rfl rfl (cell_at hB10 rfl)) ?_
        refine WL.gop (by decide) rfl rfl rfl (R.lenSlice rfl Tryd.underlying31 rfl) ?_
        refine WL.gop (by decide) rfl rfl rfl (R.move rfl) ?_
        refine WL.gop (by decide) rfl rfl rfl (R.lenSlice rfl Tryd.underlying63 rfl) ?_
        refine WL.gop (by decide) rfl rfl rfl (R.leq rfl rfl (decide_eq_true (by have := ansL_len [97] 28 l; show ((ansL [97] 28 l).length : Int) ≤ (m : Int); omega))) ?_
        refine WL.op (by decide) (R.pickT rfl rfl) ?_
        refine WL.op (by decide) (R.assign rfl) ?_
        refine WL.next ?_
        refine CW.ret ?_
        exact EW.ret1 (.inl rfl) rfl rfl ⟨rfl, hC⟩
end Go.Proofs.YthcpjcgjmdfpjaaDoor

namespace Go.Proofs.YthcpjcgjmdfpjaaDoor
open Go Go.ChangeShapes Go.WideShapes Go.ChangeAt Go.RowKit
set_option maxRecDepth 100000

theorem llmnrOnce_lifted (os : Os) (started : os.Started) (H : Type) (enc : TypeId × Value → H) :
    ReturnsInHanded {} Tryd.checked os 12 .any (fun w args => (Rows.llmnrOnceSpec.pre enc Tryd.prog Tryd.f12 [] false w args ∧ laidMetH Tryd.prog laidL w) ∧ sizedMet enc Tryd.prog Tryd.f12 (OpenSpec.ofChange Rows.llmnrOnceSpec) false w args)
      (Rows.llmnrOnceSpec.post enc Tryd.prog Tryd.f12 false true false false) := by
  refine law_lifted (s := Rows.llmnrOnceSpec) started Tryd.func12 (by kernel_rfl) rfl (by kernel_rfl) (by kernel_rfl) ?_ ?_
    (ChangeSpec.witness_shaped (enc := enc) (C := Tryd.checked) (os := os) (X := fun w _ => laidMetH Tryd.prog laidL w) false (World.laidAll Tryd.prog os laidL) #[.slice none 0 0, .int .i64 0] 8 (World.laidAll_os _ _ _)
      (World.shaped_of_ZipB (by kernel_rfl) (by kernel_rfl)) (by kernel_rfl) (by kernel_rfl) (by kernel_rfl)
      (by rw [MakeChecks.laidMetH_plain _ _ _ (by kernel_rfl)]; exact laidMet_laidAll _ (by kernel_rfl) (by kernel_rfl))) ?_
  · intro ds hl
    rw [show Tryd.f12.params.size = 2 by rw [Tryd.params12]; rfl] at hl
    obtain ⟨d0, d1, rfl⟩ := list2 hl
    rfl
  · intro W vs ds ps h
    exact trodAll_len h
  intro W base args ds p hval hA hlt hw hG
  rw [Tryd.params12] at hA hval hw
  obtain ⟨v0, v1, d0, d1, p0, p1, rfl, rfl, rfl, h0, h1⟩ := trodAll_two hA
  obtain ⟨A, m, c, l, rfl, _, _, hL, h16⟩ := open_locals (hval 0 63 v0 rfl rfl) h0
  obtain ⟨n, rfl, rfl, rfl, _⟩ := open_int Tryd.underlying3 (hval 1 3 v1 rfl rfl) h1
  exact llmnrOnce_any A m c l n W hL h16 hG

theorem llmnrOnce_joined : joinedFacts Tryd.prog 12 Tryd.f12 Rows.llmnrOnceSpec Rows.llmnrOnceRow = true :=
  joined_of seat_mayEnter seat_lifts seat_make rfl rfl rfl rfl (by kernel_rfl) (by kernel_rfl) (by kernel_rfl) (by kernel_rfl) (by kernel_rfl) (by kernel_rfl) (by kernel_rfl) (by kernel_rfl) (by kernel_rfl) (by kernel_rfl) (by kernel_rfl) (by kernel_rfl) (by kernel_rfl) (by kernel_rfl) (by kernel_rfl) (by kernel_rfl) (by kernel_rfl) (by kernel_rfl) (by kernel_rfl) (by kernel_rfl) (by kernel_rfl) (by kernel_rfl) (by kernel_rfl) (by kernel_rfl) (by kernel_rfl) (by kernel_rfl) (by kernel_rfl) (by kernel_rfl)
theorem llmnrOnce_holds : Rows.LlmnrOnceSaid :=
  OpenClaim.holds_of_wide 12 Tryd.f12 rfl rfl rfl rfl rfl rfl rfl ⟨rfl, rfl, rfl, rfl, rfl⟩ rfl rfl rfl rfl rfl (by kernel_rfl) Tryd.func12 llmnrOnce_joined
    (of_decide_eq_true (by kernel_rfl)) (by unfold Func.isWrapper; first | (rw [if_pos (by decide +kernel)]; kernel_rfl) | (rw [if_neg (by decide +kernel)]; exact ⟨rfl, rfl⟩))
    (fun os started H enc _ => llmnrOnce_lifted os started H enc)
theorem llmnrOnce_card : Rows.LlmnrOnceCardSaid :=
  Claim7.holds_tied_plain_at .later [] [.data] true (true, "6afa14409c1fcf784e159d3dd9af9e0af6fc07a3d3e06aa2c8b4c577951ca517") false llmnrOnce_holds (fun _ h => by cases h) (by kernel_rfl) (fun _ h => by cases h) llmnrOnce_row_tie rfl ⟨rfl, rfl⟩ seat_main rfl
    (fun f fn hf hfn => by
      obtain rfl : f = 12 := Option.some.inj ((show Tryd.prog.funcNamed "nomenclator/nomenclatorlaw14.LlmnrOnce" = some 12 by kernel_rfl).symm.trans hf) |>.symm
      obtain rfl : fn = Tryd.f12 := (Option.some.inj (Tryd.func12.symm.trans hfn)).symm
      exact ⟨by kernel_rfl, fun j t ht => by
        rw [Tryd.params12] at ht
        have hm : t ∈ [63, 3] := by simpa using Array.mem_of_getElem? ht
        have hall : ([63, 3].all fun u => !Tryd.prog.wantsStandIn u) = true := by kernel_rfl
        exact (show Tryd.prog.wantsStandIn t = false by simpa using List.all_eq_true.1 hall t hm)⟩)
    (by kernel_rfl)
end Go.Proofs.YthcpjcgjmdfpjaaDoor
