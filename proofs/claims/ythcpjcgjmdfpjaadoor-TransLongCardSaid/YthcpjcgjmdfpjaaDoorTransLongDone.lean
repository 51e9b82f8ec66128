/- TransLong: the statement TransLong is proved (its card); no conditions. Here: Long, TransLongCard. -/
import Derived.Test.YthcpjcgjmdfpjaaDoorWordsTrans
import Derived.Test.YthcpjcgjmdfpjaaDoorWordsSeed
import Derived.Test.YthcpjcgjmdfpjaaDoorCoreB
import Derived.Test.YthcpjcgjmdfpjaaDoorCoreE
namespace Go.Proofs.YthcpjcgjmdfpjaaDoor
open Go Go.RowKit
set_option maxRecDepth 100000
set_option maxHeartbeats 4000000

theorem build50_0 (w : World) : (Instr.build 50 #[]).run Tryd.prog w = .ok (.agg seed0.cells.toArray) w := by kernel_rfl
theorem seed0_ok : seed0.Ok := ⟨rfl, ⟨by decide, by decide⟩, ⟨by decide, by decide⟩, ⟨by decide, by decide⟩, by decide⟩
theorem MBack.setQ {m : Msg} (h : MBack m) {s : List UInt8} {t : Int} (hn : namesL s = true) (hs : (splitL s).length ≤ 16) (ht : 1 ≤ t ∧ t ≤ 65535) : MBack { m with qname := s, qtype := t } := by
  refine ⟨?_, hs, h.r⟩
  obtain ⟨a1, a2, a3, a4, a5, a6, a7, a8, a9, a10⟩ := all_parts h.all
  unfold allM
  simp [a1, a2, a3, a4, hn, ht, a8, a9, a10]
theorem match_me {T : Tr} {base : Nat} {M : Msg} {e : Ending} {w : World} (ha : ansT T M = true) (h : MatchRes T T.link T.gen T.to T.port base (some M) e w) :
    ∃ va vb, e = .returned (.tuple #[.agg (M.cells va vb).toArray, .bool true]) ∧ RSl w va M.ans ∧ RSl w vb M.auth ∧ (∀ k, va.ownBlock = some k → base ≤ k) ∧ (∀ k, vb.ownBlock = some k → base ≤ k) := by
  rcases match_two h with ⟨_, va, vb, he, h1⟩ | ⟨hp, _⟩
  · rw [ha] at he
    exact ⟨va, vb, he, h1⟩
  · rw [pass_self] at hp; cases hp
theorem transLong_any (n : Int) (A : Option Addr) (m c : Nat) (l : List SeedV) (A2 : Option Addr) (m2 c2 : Nat) (mo : List UInt8) (w0 : World) (hL : Sl SeedV.cells 20 w0 A m l) (hO : ∀ s ∈ l, s.Ok) (_hmc : m ≤ c) (_hcm : c ≤ maxLen) (hG : Glob w0) (hSm : Src w0 A2 m2 c2 mo) (hA2 : A2 = none → c2 = 0) : Calls Tryd.prog 6 #[.int .i64 n, .slice A m c, .slice A2 m2 c2] w0 fun e w' => e = .returned (.bool true) ∧ Chg (fun _ => False) w0 w' := by
  have hC := Chg.refl (fun _ => False) w0
  have hz16 : zero16.length = 16 := rfl
  have hlm := hL.1
  have hml := hSm.len
  have hmx : maxLen = 9223372036854775807 := rfl
  refine calls_cw (args := [.int .i64 n, .slice A m c, .slice A2 m2 c2]) Tryd.func6 rfl rfl ?_
  show CW _ _ _ 67 [(0, .int .i64 n), (1, .slice A m c), (2, .slice A2 m2 c2)] w0
  refine CW.rseq ?_
  refine WL.op (by decide) (R.assign rfl) ?_
  refine WL.next ?_
  refine CW.seq ?_
  refine CW.rseq ?_
  refine WL.eff rfl (OP.call (by decide) Tryd.func21 (by kernel_rfl) (by kernel_rfl) rfl (fit13_any _ (hG.keep0 hC)) ?_)
  rintro ed w1 ⟨rfl, hc_w1⟩
  refine ⟨_, rfl, ?_⟩
  have hC := hC.trans hc_w1
  have hz_w1 := hc_w1.size
  refine WL.op (by decide) (R.not rfl) ?_
  refine WL.next ?_
  refine CW.condF rfl ?_
  refine CW.skip ?_
  refine EW.next ?_
  refine CW.seq ?_
  refine CW.rseq ?_
  refine WL.op (by decide) (R.move rfl) ?_
  refine WL.op (by decide) (R.lenSlice rfl Tryd.underlying48 rfl) ?_
  refine WL.gtrS (by decide) rfl rfl (fun h1 => ?_) (fun h1 => ?_)
  · skip
    refine WL.op (by decide) (R.move rfl) ?_
    refine WL.pass (by decide) rfl rfl rfl ?_
    refine WL.pass (by decide) rfl rfl rfl ?_
    refine WL.pass (by decide) rfl rfl rfl ?_
    refine WL.op (by decide) (R.pickT rfl rfl) ?_
    refine WL.next ?_
    refine CW.condT rfl ?_
    refine CW.rseq ?_
    refine WL.op (by decide) (R.assign rfl) ?_
    refine WL.next ?_
    refine CW.ret ?_
    refine EW.thenRet ?_
    exact EW.ret1 (.inl rfl) rfl rfl ⟨rfl, hC⟩
  · skip
    refine WL.op (by decide) (R.move rfl) ?_
    refine WL.gop (by decide) rfl rfl rfl (R.move rfl) ?_
    refine WL.gop (by decide) rfl rfl rfl (R.lenSlice rfl Tryd.underlying36 rfl) ?_
    refine WL.gsplit _ (by decide) rfl rfl rfl (R.gtrD rfl rfl) (fun h2 => ?_) (fun h2 => ?_)
    · skip
      refine WL.op (by decide) (R.pickF rfl rfl) ?_
      refine WL.next ?_
      refine CW.condT rfl ?_
      refine CW.rseq ?_
      refine WL.op (by decide) (R.assign rfl) ?_
      refine WL.next ?_
      refine CW.ret ?_
      refine EW.thenRet ?_
      exact EW.ret1 (.inl rfl) rfl rfl ⟨rfl, hC⟩
    · skip
      refine WL.op (by decide) (R.pickF rfl rfl) ?_
      refine WL.next ?_
      refine CW.condF rfl ?_
      refine CW.skip ?_
      refine EW.next ?_
      refine CW.seq ?_
      refine CW.rseq ?_
      refine WL.op (by decide) (R.move rfl) ?_
      refine WL.op (by decide) (R.lenSlice rfl Tryd.underlying48 rfl) ?_
      refine WL.op (by decide) (R.move rfl) ?_
      refine WL.next ?_
      refine CW.block ?_
      refine CW.loopK [0, 1, 2, 6, 23, 24, 25] (fun k le wr => Chg (fun _ => False) w0 wr ∧ ∃ (j : Nat) (jj : Int), j + k = l.length ∧ jj = (j : Int) ∧ le = [(0, .int .i64 n), (1, .slice A m c), (2, .slice A2 m2 c2), (6, .bool false), (23, .slice A m c), (24, .int .i64 m), (25, .int .i64 jj)]) (l.length) ?_ ?_
      · exact ⟨hC, 0, 0, by omega, rfl, rfl⟩
      · rintro k le wr ⟨hC, j, jj, hk, rfl, rfl⟩
        have hz_hC := hC.size
        refine CW.rseq ?_
        refine WL.lssS (by decide) rfl rfl (fun h3 => ?_) (fun h3 => ?_)
        · skip
          refine WL.next ?_
          refine CW.seq ?_
          refine CW.condT rfl ?_
          refine CW.skip ?_
          refine EW.next ?_
          refine CW.seq ?_
          refine CW.block ?_
          refine CW.rseq ?_
          obtain ⟨s, hs⟩ : ∃ s, l[j]? = some s := ⟨l[j]'(by omega), List.getElem?_eq_getElem _⟩
          obtain ⟨hlm2, g, o, hA, hcell⟩ := (hL.kept hC).at hs
          subst hA
          have hs16 := (hO s (List.mem_of_getElem? hs)).a
          refine WL.op (by decide) (R.indexAddr1 (i := j) Tryd.underlying48 sz50 rfl rfl (by omega) (by omega)) ?_
          refine WL.op (by decide) (R.loadSdAt hs16 rfl hcell) ?_
          refine WL.eff rfl (OP.allocSd (by decide) ?_)
          intro w2 hc_w2 hs_w2 hB8
          obtain ⟨b8, he_b8⟩ : ∃ b, b = wr.heap.size := ⟨_, rfl⟩
          rw [← he_b8] at hB8 ⊢
          have hC := hC.trans hc_w2
          have hz_w2 := hc_w2.size
          refine WL.eff rfl (OP.storeSd (by assumption) (by first | rfl | assumption) rfl rfl hB8 ?_)
          intro w3 hc_w3 hs_w3 hB8
          have hC := hC.thenB hc_w3 (by omega)
          refine WL.next ?_
          refine CW.rseq ?_
          refine WL.op (by decide) (FA50_4 rfl) ?_
          refine WL.op (by decide) (R.load Tryd.underlying9 rfl rfl (cell_at hB8 (SeedV.at19 (by assumption)))) ?_
          refine WL.op (by decide) (R.lenS rfl rfl) ?_
          refine WL.gtrS (by decide) rfl rfl (fun h4 => ?_) (fun h4 => ?_)
          · skip
            refine WL.next ?_
            refine CW.condT rfl ?_
            refine CW.rseq ?_
            refine WL.op (by decide) (R.assign rfl) ?_
            refine WL.next ?_
            refine CW.ret ?_
            refine EW.inRet ?_
            refine EW.thenRet ?_
            refine EW.thenRet ?_
            refine EW.inRet ?_
            refine EW.thenRet ?_
            exact EW.ret1 (.inl rfl) rfl rfl ⟨rfl, hC⟩
          · skip
            refine WL.next ?_
            refine CW.condF rfl ?_
            refine CW.skip ?_
            refine EW.inNormal ?_
            refine EW.next ?_
            refine CW.region ?_
            refine WL.op (by decide) (R.add rfl rfl (by omega)) ?_
            refine WL.op (by decide) (R.move rfl) ?_
            refine WL.nil ?_
            exact EW.roundK [0, 1, 2, 6, 23, 24, 25] (k - 1) (by omega) ⟨hC, j + 1, _, by omega, by omega, rfl⟩
        · skip
          refine WL.next ?_
          refine CW.seq ?_
          refine CW.condF rfl ?_
          refine CW.exit ?_
          refine EW.thenExit ?_
          refine EW.thenExit ?_
          refine EW.inHere ?_
          refine EW.next ?_
          refine CW.rseq ?_
          refine WL.op (by decide) (R.move rfl) ?_
          refine WL.eff rfl (OP.call (by decide) Tryd.func22 (by kernel_rfl) (by kernel_rfl) rfl (build_any _ _ _) ?_)
          rintro ed w4 ⟨rfl, hc_w4⟩
          have hkT := buildT_ok n false
          have h16T : (buildT n false).to.length = 16 := rfl
          obtain ⟨T, hT0⟩ : ∃ T, T = buildT n false := ⟨_, rfl⟩
          rw [← hT0] at hkT h16T ⊢
          clear hT0
          refine ⟨_, rfl, ?_⟩
          have hC := hC.trans hc_w4
          have hz_w4 := hc_w4.size
          refine WL.eff rfl (OP.allocT (by decide) ?_)
          intro w5 hc_w5 hs_w5 hB9
          obtain ⟨b9, he_b9⟩ : ∃ b, b = w4.heap.size := ⟨_, rfl⟩
          rw [← he_b9] at hB9 ⊢
          have hC := hC.trans hc_w5
          have hz_w5 := hc_w5.size
          refine WL.eff rfl (OP.storeT (by assumption) (by first | rfl | assumption) rfl rfl hB9 ?_)
          intro w6 hc_w6 hs_w6 hB9
          have hC := hC.thenB hc_w6 (by omega)
          refine WL.next ?_
          refine CW.rseq ?_
          refine WL.op (by decide) (FA29_4 rfl) ?_
          refine WL.op (by decide) (R.load Tryd.underlying3 rfl rfl (cell_at hB9 (Tr.at20 (by assumption)))) ?_
          refine WL.op (by decide) (R.build (parts := []) (vals := []) rfl build50_0) ?_
          refine WL.op (by decide) (R.move rfl) ?_
          refine WL.eff rfl (OP.call (by decide) Tryd.func28 (by kernel_rfl) (by kernel_rfl) rfl (message_any _ _ _ _ _ _ l _ seed0_ok (hL.keep0 hC) hO (by omega)) ?_)
          rintro ed w7 ⟨hc_w7, vM, rfl, vaM, vbM, rfl, hvaM, hvbM, hoaM, hobM⟩
          obtain ⟨AaM, caM, rfl, _⟩ := hvaM.form
          obtain ⟨AbM, cbM, rfl, _⟩ := hvbM.form
          obtain ⟨M, hM0⟩ : ∃ M, M = msgS T.id 1 seed0 l := ⟨_, rfl⟩
          have hbM : MBack M := by rw [hM0]; exact MBack.seeds (fun s hs => (hO s hs).a)
          have hMr : M.reply = true := by rw [hM0]; rfl
          have hMi : M.id = T.id := by rw [hM0]; show T.id % 65536 = T.id; have := hkT.id; omega
          rw [← hM0] at hvaM hvbM hoaM hobM ⊢
          refine ⟨_, rfl, ?_⟩
          have hB9 := hc_w7.at hB9 (fun e => e)
          have hC := hC.trans hc_w7
          have hz_w7 := hc_w7.size
          have hK7 : Chg (fun _ => False) w7 w7 := Chg.refl _ _
          refine WL.eff rfl (OP.allocM (by decide) ?_)
          intro w8 hc_w8 hs_w8 hB10
          obtain ⟨b10, he_b10⟩ : ∃ b, b = w7.heap.size := ⟨_, rfl⟩
          rw [← he_b10] at hB10 ⊢
          have hB9 := hc_w8.at hB9 (fun e => e)
          have hC := hC.trans hc_w8
          have hK7 := hK7.trans hc_w8
          have hz_w8 := hc_w8.size
          refine WL.eff rfl (OP.storeM rfl rfl hB10 ?_)
          intro w9 hc_w9 hs_w9 hB10
          have hB9 := hc_w9.at hB9 (fun e => by omega)
          have hC := hC.thenB hc_w9 (by omega)
          have hK7 := hK7.thenB hc_w9 (by omega)
          refine WL.next ?_
          refine CW.rseq ?_
          refine WL.op (by decide) (FA29_0 rfl) ?_
          refine WL.op (by decide) (R.loadTQ rfl hB9) ?_
          refine WL.op (by decide) (FA33_5 rfl) ?_
          refine WL.eff rfl (OP.storeQ rfl rfl hB10 ?_)
          intro w10 hc_w10 hs_w10 hB10
          have hB9 := hc_w10.at hB9 (fun e => by omega)
          have hC := hC.thenB hc_w10 (by omega)
          have hK7 := hK7.thenB hc_w10 (by omega)
          refine WL.next ?_
          refine CW.seq ?_
          obtain ⟨M2, hM2⟩ : ∃ M2, M2 = ({ M with qname := T.qname, qtype := T.qtype } : Msg) := ⟨_, rfl⟩
          have hb2 : MBack M2 := by rw [hM2]; exact hbM.setQ hkT.nm hkT.sp (by have := hkT.ty; omega)
          have hans : M2.ans = M.ans := by rw [hM2]
          have hauth : M2.auth = M.auth := by rw [hM2]
          have hmy : ansT T M2 = true := by rw [hM2]; exact ans_self hMr hMi rfl rfl
          rw [← hM2] at hB10
          rw [← hans] at hB10 hvaM hoaM
          rw [← hauth] at hB10 hvbM hobM
          have hB9_d := hB9
          have hB10_d := hB10
          refine CW.draw (fun w => w.heap[b9]? = w10.heap[b9]? ∧ w.heap[b10]? = w10.heap[b10]?) (by kernel_rfl) ?_
          have hc_w11 : Chg (fun _ => False) w10 w10.drew := Chg.drew _ _
          obtain ⟨w11, he_w11⟩ : ∃ w, w = w10.drew := ⟨_, rfl⟩
          rw [← he_w11] at hc_w11 ⊢
          have hB9 := hc_w11.at hB9 (fun e => e)
          have hB10 := hc_w11.at hB10 (fun e => e)
          have hC := hC.trans hc_w11
          have hK7 := hK7.trans hc_w11
          have hz_w11 := hc_w11.size
          refine AH.take 0 rfl (by kernel_rfl) (by kernel_rfl) (by kernel_rfl) (fun _ _ _ _ h => h) (⟨hB9.trans hB9_d.symm, hB10.trans hB10_d.symm⟩) (by decide) (fun w hS => R.loadT (by assumption) rfl (hS.1.trans hB9_d)) ?_
          refine AH.take 1 rfl (by kernel_rfl) (by kernel_rfl) (by kernel_rfl) (fun _ _ _ _ h => h) (⟨hB9.trans hB9_d.symm, hB10.trans hB10_d.symm⟩) (by decide) (fun w hS => FA29_1 rfl) ?_
          refine AH.take 2 rfl (by kernel_rfl) (by kernel_rfl) (by kernel_rfl) (fun _ _ _ _ h => h) (⟨hB9.trans hB9_d.symm, hB10.trans hB10_d.symm⟩) (by decide) (fun w hS => R.load Tryd.underlying3 rfl rfl (cell_at (hS.1.trans hB9_d) rfl)) ?_
          refine AH.take 3 rfl (by kernel_rfl) (by kernel_rfl) (by kernel_rfl) (fun _ _ _ _ h => h) (⟨hB9.trans hB9_d.symm, hB10.trans hB10_d.symm⟩) (by decide) (fun w hS => FA29_2 rfl) ?_
          refine AH.take 4 rfl (by kernel_rfl) (by kernel_rfl) (by kernel_rfl) (fun _ _ _ _ h => h) (⟨hB9.trans hB9_d.symm, hB10.trans hB10_d.symm⟩) (by decide) (fun w hS => R.load Tryd.underlying3 rfl rfl (cell_at (hS.1.trans hB9_d) rfl)) ?_
          refine AH.take 5 rfl (by kernel_rfl) (by kernel_rfl) (by kernel_rfl) (fun _ _ _ _ h => h) (⟨hB9.trans hB9_d.symm, hB10.trans hB10_d.symm⟩) (by decide) (fun w hS => FA29_3 rfl) ?_
          refine AH.take 6 rfl (by kernel_rfl) (by kernel_rfl) (by kernel_rfl) (fun _ _ _ _ h => h) (⟨hB9.trans hB9_d.symm, hB10.trans hB10_d.symm⟩) (by decide) (fun w hS => R.loadTTo (by assumption) rfl (hS.1.trans hB9_d)) ?_
          refine AH.take 7 rfl (by kernel_rfl) (by kernel_rfl) (by kernel_rfl) (fun _ _ _ _ h => h) (⟨hB9.trans hB9_d.symm, hB10.trans hB10_d.symm⟩) (by decide) (fun w hS => FA29_5 rfl) ?_
          refine AH.take 8 rfl (by kernel_rfl) (by kernel_rfl) (by kernel_rfl) (fun _ _ _ _ h => h) (⟨hB9.trans hB9_d.symm, hB10.trans hB10_d.symm⟩) (by decide) (fun w hS => R.load Tryd.underlying3 rfl rfl (cell_at (hS.1.trans hB9_d) (Tr.at21 (by assumption)))) ?_
          refine AH.take 9 rfl (by kernel_rfl) (by kernel_rfl) (by kernel_rfl) (fun _ _ _ _ h => h) (⟨hB9.trans hB9_d.symm, hB10.trans hB10_d.symm⟩) (by decide) (fun w hS => R.loadM rfl (hS.2.trans hB10_d)) ?_
          refine AH.take 11 rfl (by kernel_rfl) (by kernel_rfl) (by kernel_rfl) (fun _ _ _ _ h => h) (⟨hB9.trans hB9_d.symm, hB10.trans hB10_d.symm⟩) (by decide) (fun w hS => R.move rfl) ?_
          refine AH.either 10 17 (by kernel_rfl) rfl rfl rfl rfl ?_ ?_
          · skip
            refine (OP.call (by decide) Tryd.func24 (by kernel_rfl) (by kernel_rfl) rfl (encode_src _ _ _ ⟨_, _, rfl, (hvaM.keep0 hK7), (hvbM.keep0 hK7)⟩ (hb2)) ?_)
            rintro ed w12 ⟨gE, ceE, bsE, rfl, hbsE, hBufE, hSrcE, hmoreE, hdecE, hblE, hgeE, hglE, hc_w12⟩
            refine ⟨_, rfl, ?_⟩
            have hB9 := hc_w12.at hB9 (fun e => e)
            have hB10 := hc_w12.at hB10 (fun e => e)
            have hC := hC.trans hc_w12
            have hK7 := hK7.trans hc_w12
            have hz_w12 := hc_w12.size
            have hK12 : Chg (fun _ => False) w12 w12 := Chg.refl _ _
            refine ⟨⟨hB9.trans hB9_d.symm, hB10.trans hB10_d.symm⟩, ?_⟩
            refine AH.either 12 17 (by kernel_rfl) rfl rfl rfl rfl ?_ ?_
            · skip
              refine (OP.appendSrc (by decide) rfl rfl (hBufE.keep0 hK12) (hSm.keep0 hC) hA2 (by omega) (by omega) ?_)
              intro v2 w13 hB2 hMv
              obtain ⟨g2, ce2, rfl, hSrc2, hc_w13, hgl2⟩ := appended (ne_of_dec hdecE) hB2 hMv (by omega)
              have hl2 : (bsE ++ mo).length = bsE.length + mo.length := List.length_append
              have hz_w13 := hc_w13.size
              have hB9 := hc_w13.at hB9 (fun e => by omega)
              have hB10 := hc_w13.at hB10 (fun e => by omega)
              have hC := hC.thenB hc_w13 (by omega)
              have hK7 := hK7.thenB hc_w13 (by omega)
              have hK13 : Chg (fun _ => False) w13 w13 := Chg.refl _ _
              refine ⟨⟨hB9.trans hB9_d.symm, hB10.trans hB10_d.symm⟩, ?_⟩
              refine AH.either 13 17 (by kernel_rfl) rfl rfl rfl rfl ?_ ?_
              · skip
                refine (OP.call (by decide) Tryd.func23 (by kernel_rfl) (by kernel_rfl) rfl (match_any _ _ _ _ _ _ _ _ _ _ h16T h16T (hSrc2.keep0 hK13) (by rintro _ _ ⟨⟩; omega) (by omega) (hG.keep0 hC)) ?_)
                rintro ed w14 ⟨hc_w14, hres⟩
                rw [hmoreE] at hres
                obtain ⟨vaD, vbD, rfl, hvaD, hvbD, hoaD, hobD⟩ := match_me hmy hres
                obtain ⟨AaD, caD, rfl, _⟩ := hvaD.form
                obtain ⟨AbD, cbD, rfl, _⟩ := hvbD.form
                refine ⟨_, rfl, ?_⟩
                have hB9 := hc_w14.at hB9 (fun e => e)
                have hB10 := hc_w14.at hB10 (fun e => e)
                have hC := hC.trans hc_w14
                have hK7 := hK7.trans hc_w14
                have hK13 := hK13.trans hc_w14
                have hz_w14 := hc_w14.size
                have hK14 : Chg (fun _ => False) w14 w14 := Chg.refl _ _
                refine ⟨⟨hB9.trans hB9_d.symm, hB10.trans hB10_d.symm⟩, ?_⟩
                refine AH.take 14 rfl (by kernel_rfl) (by kernel_rfl) (by kernel_rfl) (fun _ _ _ _ h => h) (⟨hB9.trans hB9_d.symm, hB10.trans hB10_d.symm⟩) (by decide) (fun w hS => R.move rfl) ?_
                refine AH.take 15 rfl (by kernel_rfl) (by kernel_rfl) (by kernel_rfl) (fun _ _ _ _ h => h) (⟨hB9.trans hB9_d.symm, hB10.trans hB10_d.symm⟩) (by decide) (fun w hS => R.extract rfl rfl) ?_
                refine AH.take 16 rfl (by kernel_rfl) (by kernel_rfl) (by kernel_rfl) (fun _ _ _ _ h => h) (⟨hB9.trans hB9_d.symm, hB10.trans hB10_d.symm⟩) (by decide) (fun w hS => R.extract rfl rfl) ?_
                refine AH.eff 17 (by kernel_rfl) rfl rfl (OP.allocM (by decide) ?_)
                intro w15 hc_w15 hs_w15 hB11
                obtain ⟨b11, he_b11⟩ : ∃ b, b = w14.heap.size := ⟨_, rfl⟩
                rw [← he_b11] at hB11 ⊢
                have hB9 := hc_w15.at hB9 (fun e => e)
                have hB10 := hc_w15.at hB10 (fun e => e)
                have hC := hC.trans hc_w15
                have hK7 := hK7.trans hc_w15
                have hK13 := hK13.trans hc_w15
                have hK14 := hK14.trans hc_w15
                have hz_w15 := hc_w15.size
                refine ⟨⟨hB9.trans hB9_d.symm, hB10.trans hB10_d.symm⟩, ?_⟩
                refine AH.eff 18 (by kernel_rfl) rfl rfl (OP.storeM rfl rfl hB11 ?_)
                intro w16 hc_w16 hs_w16 hB11
                have hB9 := hc_w16.at hB9 (fun e => by omega)
                have hB10 := hc_w16.at hB10 (fun e => by omega)
                have hC := hC.thenB hc_w16 (by omega)
                have hK7 := hK7.thenB hc_w16 (by omega)
                have hK13 := hK13.thenB hc_w16 (by omega)
                have hK14 := hK14.thenB hc_w16 (by omega)
                refine ⟨⟨hB9.trans hB9_d.symm, hB10.trans hB10_d.symm⟩, ?_⟩
                refine AH.take 19 rfl (by kernel_rfl) (by kernel_rfl) (by kernel_rfl) (fun _ _ _ _ h => h) (⟨hB9.trans hB9_d.symm, hB10.trans hB10_d.symm⟩) (by decide) (fun w hS => R.assign rfl) ?_
                refine AH.done (by kernel_rfl) ?_
                refine EW.next ?_
                refine CW.rseq ?_
                refine WL.op (by decide) (R.move rfl) ?_
                refine WL.op (by decide) (R.move rfl) ?_
                refine WL.gop (by decide) rfl rfl rfl (R.loadM rfl hB11) ?_
                refine WL.gop (by decide) rfl rfl rfl (R.loadM rfl hB10) ?_
                refine WL.geff rfl rfl rfl (OP.call (by decide) Tryd.func25 (by kernel_rfl) (by kernel_rfl) rfl (same_any _ _ _ _ _ ⟨_, _, rfl, (hvaD.keep0 hK14), (hvbD.keep0 hK14)⟩ ⟨_, _, rfl, (hvaM.keep0 hK7), (hvbM.keep0 hK7)⟩ (len_dec (hmoreE mo)).1 (len_dec (hmoreE mo)).2) ?_)
                rintro ed w17 ⟨rfl, hc_w17⟩
                rw [sameM_self]
                refine ⟨_, rfl, ?_⟩
                have hB9 := hc_w17.at hB9 (fun e => e)
                have hB10 := hc_w17.at hB10 (fun e => e)
                have hB11 := hc_w17.at hB11 (fun e => e)
                have hC := hC.trans hc_w17
                have hK7 := hK7.trans hc_w17
                have hK13 := hK13.trans hc_w17
                have hK14 := hK14.trans hc_w17
                have hz_w17 := hc_w17.size
                refine WL.op (by decide) (R.pickT rfl rfl) ?_
                refine WL.op (by decide) (R.assign rfl) ?_
                refine WL.next ?_
                refine CW.ret ?_
                exact EW.ret1 (.inl rfl) rfl rfl ⟨rfl, hC⟩
              · skip
                refine (OP.allocM (by decide) ?_)
                intro w18 hc_w18 hs_w18 hB11
                obtain ⟨b11, he_b11⟩ : ∃ b, b = w13.heap.size := ⟨_, rfl⟩
                rw [← he_b11] at hB11 ⊢
                have hB9 := hc_w18.at hB9 (fun e => e)
                have hB10 := hc_w18.at hB10 (fun e => e)
                have hC := hC.trans hc_w18
                have hK7 := hK7.trans hc_w18
                have hK13 := hK13.trans hc_w18
                have hz_w18 := hc_w18.size
                refine ⟨⟨hB9.trans hB9_d.symm, hB10.trans hB10_d.symm⟩, ?_⟩
                refine AH.eff 13 (by kernel_rfl) rfl rfl (OP.call (by decide) Tryd.func23 (by kernel_rfl) (by kernel_rfl) rfl (match_any _ _ _ _ _ _ _ _ _ _ h16T h16T (hSrc2.keep0 hK13) (by rintro _ _ ⟨⟩; omega) (by omega) (hG.keep0 hC)) ?_)
                rintro ed w19 ⟨hc_w19, hres⟩
                rw [hmoreE] at hres
                obtain ⟨vaD, vbD, rfl, hvaD, hvbD, hoaD, hobD⟩ := match_me hmy hres
                obtain ⟨AaD, caD, rfl, _⟩ := hvaD.form
                obtain ⟨AbD, cbD, rfl, _⟩ := hvbD.form
                refine ⟨_, rfl, ?_⟩
                have hB9 := hc_w19.at hB9 (fun e => e)
                have hB10 := hc_w19.at hB10 (fun e => e)
                have hB11 := hc_w19.at hB11 (fun e => e)
                have hC := hC.trans hc_w19
                have hK7 := hK7.trans hc_w19
                have hK13 := hK13.trans hc_w19
                have hz_w19 := hc_w19.size
                have hK19 : Chg (fun _ => False) w19 w19 := Chg.refl _ _
                refine ⟨⟨hB9.trans hB9_d.symm, hB10.trans hB10_d.symm⟩, ?_⟩
                refine AH.take 14 rfl (by kernel_rfl) (by kernel_rfl) (by kernel_rfl) (fun _ _ _ _ h => h) (⟨hB9.trans hB9_d.symm, hB10.trans hB10_d.symm⟩) (by decide) (fun w hS => R.move rfl) ?_
                refine AH.take 15 rfl (by kernel_rfl) (by kernel_rfl) (by kernel_rfl) (fun _ _ _ _ h => h) (⟨hB9.trans hB9_d.symm, hB10.trans hB10_d.symm⟩) (by decide) (fun w hS => R.extract rfl rfl) ?_
                refine AH.take 16 rfl (by kernel_rfl) (by kernel_rfl) (by kernel_rfl) (fun _ _ _ _ h => h) (⟨hB9.trans hB9_d.symm, hB10.trans hB10_d.symm⟩) (by decide) (fun w hS => R.extract rfl rfl) ?_
                refine AH.eff 18 (by kernel_rfl) rfl rfl (OP.storeM rfl rfl hB11 ?_)
                intro w20 hc_w20 hs_w20 hB11
                have hB9 := hc_w20.at hB9 (fun e => by omega)
                have hB10 := hc_w20.at hB10 (fun e => by omega)
                have hC := hC.thenB hc_w20 (by omega)
                have hK7 := hK7.thenB hc_w20 (by omega)
                have hK13 := hK13.thenB hc_w20 (by omega)
                have hvaD := (hvaD.keep0 hK19).kept hc_w20 (fun k e1 e2 => by have := hoaD k e1; omega)
                have hvbD := (hvbD.keep0 hK19).kept hc_w20 (fun k e1 e2 => by have := hobD k e1; omega)
                have hK20 : Chg (fun _ => False) w20 w20 := Chg.refl _ _
                refine ⟨⟨hB9.trans hB9_d.symm, hB10.trans hB10_d.symm⟩, ?_⟩
                refine AH.take 19 rfl (by kernel_rfl) (by kernel_rfl) (by kernel_rfl) (fun _ _ _ _ h => h) (⟨hB9.trans hB9_d.symm, hB10.trans hB10_d.symm⟩) (by decide) (fun w hS => R.assign rfl) ?_
                refine AH.done (by kernel_rfl) ?_
                refine EW.next ?_
                refine CW.rseq ?_
                refine WL.op (by decide) (R.move rfl) ?_
                refine WL.op (by decide) (R.move rfl) ?_
                refine WL.gop (by decide) rfl rfl rfl (R.loadM rfl hB11) ?_
                refine WL.gop (by decide) rfl rfl rfl (R.loadM rfl hB10) ?_
                refine WL.geff rfl rfl rfl (OP.call (by decide) Tryd.func25 (by kernel_rfl) (by kernel_rfl) rfl (same_any _ _ _ _ _ ⟨_, _, rfl, (hvaD.keep0 hK20), (hvbD.keep0 hK20)⟩ ⟨_, _, rfl, (hvaM.keep0 hK7), (hvbM.keep0 hK7)⟩ (len_dec (hmoreE mo)).1 (len_dec (hmoreE mo)).2) ?_)
                rintro ed w21 ⟨rfl, hc_w21⟩
                rw [sameM_self]
                refine ⟨_, rfl, ?_⟩
                have hB9 := hc_w21.at hB9 (fun e => e)
                have hB10 := hc_w21.at hB10 (fun e => e)
                have hB11 := hc_w21.at hB11 (fun e => e)
                have hC := hC.trans hc_w21
                have hK7 := hK7.trans hc_w21
                have hK13 := hK13.trans hc_w21
                have hK20 := hK20.trans hc_w21
                have hz_w21 := hc_w21.size
                refine WL.op (by decide) (R.pickT rfl rfl) ?_
                refine WL.op (by decide) (R.assign rfl) ?_
                refine WL.next ?_
                refine CW.ret ?_
                exact EW.ret1 (.inl rfl) rfl rfl ⟨rfl, hC⟩
            · skip
              refine (OP.allocM (by decide) ?_)
              intro w22 hc_w22 hs_w22 hB11
              obtain ⟨b11, he_b11⟩ : ∃ b, b = w12.heap.size := ⟨_, rfl⟩
              rw [← he_b11] at hB11 ⊢
              have hB9 := hc_w22.at hB9 (fun e => e)
              have hB10 := hc_w22.at hB10 (fun e => e)
              have hC := hC.trans hc_w22
              have hK7 := hK7.trans hc_w22
              have hK12 := hK12.trans hc_w22
              have hz_w22 := hc_w22.size
              refine ⟨⟨hB9.trans hB9_d.symm, hB10.trans hB10_d.symm⟩, ?_⟩
              refine AH.eff 12 (by kernel_rfl) rfl rfl (OP.appendSrc (by decide) rfl rfl (hBufE.keep0 hK12) (hSm.keep0 hC) hA2 (by omega) (by omega) ?_)
              intro v2 w23 hB2 hMv
              obtain ⟨g2, ce2, rfl, hSrc2, hc_w23, hgl2⟩ := appended (ne_of_dec hdecE) hB2 hMv (by omega)
              have hl2 : (bsE ++ mo).length = bsE.length + mo.length := List.length_append
              have hz_w23 := hc_w23.size
              have hB9 := hc_w23.at hB9 (fun e => by omega)
              have hB10 := hc_w23.at hB10 (fun e => by omega)
              have hB11 := hc_w23.at hB11 (fun e => by omega)
              have hC := hC.thenB hc_w23 (by omega)
              have hK7 := hK7.thenB hc_w23 (by omega)
              have hK23 : Chg (fun _ => False) w23 w23 := Chg.refl _ _
              refine ⟨⟨hB9.trans hB9_d.symm, hB10.trans hB10_d.symm⟩, ?_⟩
              refine AH.eff 13 (by kernel_rfl) rfl rfl (OP.call (by decide) Tryd.func23 (by kernel_rfl) (by kernel_rfl) rfl (match_any _ _ _ _ _ _ _ _ _ _ h16T h16T (hSrc2.keep0 hK23) (by rintro _ _ ⟨⟩; omega) (by omega) (hG.keep0 hC)) ?_)
              rintro ed w24 ⟨hc_w24, hres⟩
              rw [hmoreE] at hres
              obtain ⟨vaD, vbD, rfl, hvaD, hvbD, hoaD, hobD⟩ := match_me hmy hres
              obtain ⟨AaD, caD, rfl, _⟩ := hvaD.form
              obtain ⟨AbD, cbD, rfl, _⟩ := hvbD.form
              refine ⟨_, rfl, ?_⟩
              have hB9 := hc_w24.at hB9 (fun e => e)
              have hB10 := hc_w24.at hB10 (fun e => e)
              have hB11 := hc_w24.at hB11 (fun e => e)
              have hC := hC.trans hc_w24
              have hK7 := hK7.trans hc_w24
              have hK23 := hK23.trans hc_w24
              have hz_w24 := hc_w24.size
              have hK24 : Chg (fun _ => False) w24 w24 := Chg.refl _ _
              refine ⟨⟨hB9.trans hB9_d.symm, hB10.trans hB10_d.symm⟩, ?_⟩
              refine AH.take 14 rfl (by kernel_rfl) (by kernel_rfl) (by kernel_rfl) (fun _ _ _ _ h => h) (⟨hB9.trans hB9_d.symm, hB10.trans hB10_d.symm⟩) (by decide) (fun w hS => R.move rfl) ?_
              refine AH.take 15 rfl (by kernel_rfl) (by kernel_rfl) (by kernel_rfl) (fun _ _ _ _ h => h) (⟨hB9.trans hB9_d.symm, hB10.trans hB10_d.symm⟩) (by decide) (fun w hS => R.extract rfl rfl) ?_
              refine AH.take 16 rfl (by kernel_rfl) (by kernel_rfl) (by kernel_rfl) (fun _ _ _ _ h => h) (⟨hB9.trans hB9_d.symm, hB10.trans hB10_d.symm⟩) (by decide) (fun w hS => R.extract rfl rfl) ?_
              refine AH.eff 18 (by kernel_rfl) rfl rfl (OP.storeM rfl rfl hB11 ?_)
              intro w25 hc_w25 hs_w25 hB11
              have hB9 := hc_w25.at hB9 (fun e => by omega)
              have hB10 := hc_w25.at hB10 (fun e => by omega)
              have hC := hC.thenB hc_w25 (by omega)
              have hK7 := hK7.thenB hc_w25 (by omega)
              have hvaD := (hvaD.keep0 hK24).kept hc_w25 (fun k e1 e2 => by have := hoaD k e1; omega)
              have hvbD := (hvbD.keep0 hK24).kept hc_w25 (fun k e1 e2 => by have := hobD k e1; omega)
              have hK25 : Chg (fun _ => False) w25 w25 := Chg.refl _ _
              refine ⟨⟨hB9.trans hB9_d.symm, hB10.trans hB10_d.symm⟩, ?_⟩
              refine AH.take 19 rfl (by kernel_rfl) (by kernel_rfl) (by kernel_rfl) (fun _ _ _ _ h => h) (⟨hB9.trans hB9_d.symm, hB10.trans hB10_d.symm⟩) (by decide) (fun w hS => R.assign rfl) ?_
              refine AH.done (by kernel_rfl) ?_
              refine EW.next ?_
              refine CW.rseq ?_
              refine WL.op (by decide) (R.move rfl) ?_
              refine WL.op (by decide) (R.move rfl) ?_
              refine WL.gop (by decide) rfl rfl rfl (R.loadM rfl hB11) ?_
              refine WL.gop (by decide) rfl rfl rfl (R.loadM rfl hB10) ?_
              refine WL.geff rfl rfl rfl (OP.call (by decide) Tryd.func25 (by kernel_rfl) (by kernel_rfl) rfl (same_any _ _ _ _ _ ⟨_, _, rfl, (hvaD.keep0 hK25), (hvbD.keep0 hK25)⟩ ⟨_, _, rfl, (hvaM.keep0 hK7), (hvbM.keep0 hK7)⟩ (len_dec (hmoreE mo)).1 (len_dec (hmoreE mo)).2) ?_)
              rintro ed w26 ⟨rfl, hc_w26⟩
              rw [sameM_self]
              refine ⟨_, rfl, ?_⟩
              have hB9 := hc_w26.at hB9 (fun e => e)
              have hB10 := hc_w26.at hB10 (fun e => e)
              have hB11 := hc_w26.at hB11 (fun e => e)
              have hC := hC.trans hc_w26
              have hK7 := hK7.trans hc_w26
              have hK25 := hK25.trans hc_w26
              have hz_w26 := hc_w26.size
              refine WL.op (by decide) (R.pickT rfl rfl) ?_
              refine WL.op (by decide) (R.assign rfl) ?_
              refine WL.next ?_
              refine CW.ret ?_
              exact EW.ret1 (.inl rfl) rfl rfl ⟨rfl, hC⟩
          · skip
            refine (OP.allocM (by decide) ?_)
            intro w27 hc_w27 hs_w27 hB11
            obtain ⟨b11, he_b11⟩ : ∃ b, b = w11.heap.size := ⟨_, rfl⟩
            rw [← he_b11] at hB11 ⊢
            have hB9 := hc_w27.at hB9 (fun e => e)
            have hB10 := hc_w27.at hB10 (fun e => e)
            have hC := hC.trans hc_w27
            have hK7 := hK7.trans hc_w27
            have hz_w27 := hc_w27.size
            refine ⟨⟨hB9.trans hB9_d.symm, hB10.trans hB10_d.symm⟩, ?_⟩
            refine AH.eff 10 (by kernel_rfl) rfl rfl (OP.call (by decide) Tryd.func24 (by kernel_rfl) (by kernel_rfl) rfl (encode_src _ _ _ ⟨_, _, rfl, (hvaM.keep0 hK7), (hvbM.keep0 hK7)⟩ (hb2)) ?_)
            rintro ed w28 ⟨gE, ceE, bsE, rfl, hbsE, hBufE, hSrcE, hmoreE, hdecE, hblE, hgeE, hglE, hc_w28⟩
            refine ⟨_, rfl, ?_⟩
            have hB9 := hc_w28.at hB9 (fun e => e)
            have hB10 := hc_w28.at hB10 (fun e => e)
            have hB11 := hc_w28.at hB11 (fun e => e)
            have hC := hC.trans hc_w28
            have hK7 := hK7.trans hc_w28
            have hz_w28 := hc_w28.size
            have hK28 : Chg (fun _ => False) w28 w28 := Chg.refl _ _
            refine ⟨⟨hB9.trans hB9_d.symm, hB10.trans hB10_d.symm⟩, ?_⟩
            refine AH.eff 12 (by kernel_rfl) rfl rfl (OP.appendSrc (by decide) rfl rfl (hBufE.keep0 hK28) (hSm.keep0 hC) hA2 (by omega) (by omega) ?_)
            intro v2 w29 hB2 hMv
            obtain ⟨g2, ce2, rfl, hSrc2, hc_w29, hgl2⟩ := appended (ne_of_dec hdecE) hB2 hMv (by omega)
            have hl2 : (bsE ++ mo).length = bsE.length + mo.length := List.length_append
            have hz_w29 := hc_w29.size
            have hB9 := hc_w29.at hB9 (fun e => by omega)
            have hB10 := hc_w29.at hB10 (fun e => by omega)
            have hB11 := hc_w29.at hB11 (fun e => by omega)
            have hC := hC.thenB hc_w29 (by omega)
            have hK7 := hK7.thenB hc_w29 (by omega)
            have hK29 : Chg (fun _ => False) w29 w29 := Chg.refl _ _
            refine ⟨⟨hB9.trans hB9_d.symm, hB10.trans hB10_d.symm⟩, ?_⟩
            refine AH.eff 13 (by kernel_rfl) rfl rfl (OP.call (by decide) Tryd.func23 (by kernel_rfl) (by kernel_rfl) rfl (match_any _ _ _ _ _ _ _ _ _ _ h16T h16T (hSrc2.keep0 hK29) (by rintro _ _ ⟨⟩; omega) (by omega) (hG.keep0 hC)) ?_)
            rintro ed w30 ⟨hc_w30, hres⟩
            rw [hmoreE] at hres
            obtain ⟨vaD, vbD, rfl, hvaD, hvbD, hoaD, hobD⟩ := match_me hmy hres
            obtain ⟨AaD, caD, rfl, _⟩ := hvaD.form
            obtain ⟨AbD, cbD, rfl, _⟩ := hvbD.form
            refine ⟨_, rfl, ?_⟩
            have hB9 := hc_w30.at hB9 (fun e => e)
            have hB10 := hc_w30.at hB10 (fun e => e)
            have hB11 := hc_w30.at hB11 (fun e => e)
            have hC := hC.trans hc_w30
            have hK7 := hK7.trans hc_w30
            have hK29 := hK29.trans hc_w30
            have hz_w30 := hc_w30.size
            have hK30 : Chg (fun _ => False) w30 w30 := Chg.refl _ _
            refine ⟨⟨hB9.trans hB9_d.symm, hB10.trans hB10_d.symm⟩, ?_⟩
            refine AH.take 14 rfl (by kernel_rfl) (by kernel_rfl) (by kernel_rfl) (fun _ _ _ _ h => h) (⟨hB9.trans hB9_d.symm, hB10.trans hB10_d.symm⟩) (by decide) (fun w hS => R.move rfl) ?_
            refine AH.take 15 rfl (by kernel_rfl) (by kernel_rfl) (by kernel_rfl) (fun _ _ _ _ h => h) (⟨hB9.trans hB9_d.symm, hB10.trans hB10_d.symm⟩) (by decide) (fun w hS => R.extract rfl rfl) ?_
            refine AH.take 16 rfl (by kernel_rfl) (by kernel_rfl) (by kernel_rfl) (fun _ _ _ _ h => h) (⟨hB9.trans hB9_d.symm, hB10.trans hB10_d.symm⟩) (by decide) (fun w hS => R.extract rfl rfl) ?_
            refine AH.eff 18 (by kernel_rfl) rfl rfl (OP.storeM rfl rfl hB11 ?_)
            intro w31 hc_w31 hs_w31 hB11
            have hB9 := hc_w31.at hB9 (fun e => by omega)
            have hB10 := hc_w31.at hB10 (fun e => by omega)
            have hC := hC.thenB hc_w31 (by omega)
            have hK7 := hK7.thenB hc_w31 (by omega)
            have hvaD := (hvaD.keep0 hK30).kept hc_w31 (fun k e1 e2 => by have := hoaD k e1; omega)
            have hvbD := (hvbD.keep0 hK30).kept hc_w31 (fun k e1 e2 => by have := hobD k e1; omega)
            have hK31 : Chg (fun _ => False) w31 w31 := Chg.refl _ _
            refine ⟨⟨hB9.trans hB9_d.symm, hB10.trans hB10_d.symm⟩, ?_⟩
            refine AH.take 19 rfl (by kernel_rfl) (by kernel_rfl) (by kernel_rfl) (fun _ _ _ _ h => h) (⟨hB9.trans hB9_d.symm, hB10.trans hB10_d.symm⟩) (by decide) (fun w hS => R.assign rfl) ?_
            refine AH.done (by kernel_rfl) ?_
            refine EW.next ?_
            refine CW.rseq ?_
            refine WL.op (by decide) (R.move rfl) ?_
            refine WL.op (by decide) (R.move rfl) ?_
            refine WL.gop (by decide) rfl rfl rfl (R.loadM rfl hB11) ?_
            refine WL.gop (by decide) rfl rfl rfl (R.loadM rfl hB10) ?_
            refine WL.geff rfl rfl rfl (OP.call (by decide) Tryd.func25 (by kernel_rfl) (by kernel_rfl) rfl (same_any _ _ _ _ _ ⟨_, _, rfl, (hvaD.keep0 hK31), (hvbD.keep0 hK31)⟩ ⟨_, _, rfl, (hvaM.keep0 hK7), (hvbM.keep0 hK7)⟩ (len_dec (hmoreE mo)).1 (len_dec (hmoreE mo)).2) ?_)
            rintro ed w32 ⟨rfl, hc_w32⟩
            rw [sameM_self]
            refine ⟨_, rfl, ?_⟩
            have hB9 := hc_w32.at hB9 (fun e => e)
            have hB10 := hc_w32.at hB10 (fun e => e)
            have hB11 := hc_w32.at hB11 (fun e => e)
            have hC := hC.trans hc_w32
            have hK7 := hK7.trans hc_w32
            have hK31 := hK31.trans hc_w32
            have hz_w32 := hc_w32.size
            refine WL.op (by decide) (R.pickT rfl rfl) ?_
            refine WL.op (by decide) (R.assign rfl) ?_
            refine WL.next ?_
            refine CW.ret ?_
            exact EW.ret1 (.inl rfl) rfl rfl ⟨rfl, hC⟩
end Go.Proofs.YthcpjcgjmdfpjaaDoor

namespace Go.Proofs.YthcpjcgjmdfpjaaDoor
open Go Go.ChangeShapes Go.WideShapes Go.ChangeAt Go.RowKit
set_option maxRecDepth 100000

theorem transLong_lifted (os : Os) (started : os.Started) (H : Type) (enc : TypeId × Value → H) :
    ReturnsInHanded {} Tryd.checked os 6 .any (fun w args => (Rows.transLongSpec.pre enc Tryd.prog Tryd.f6 [] false w args ∧ laidMetH Tryd.prog laidL w) ∧ sizedMet enc Tryd.prog Tryd.f6 (OpenSpec.ofChange Rows.transLongSpec) false w args)
      (Rows.transLongSpec.post enc Tryd.prog Tryd.f6 false true false false) := by
  refine law_lifted (s := Rows.transLongSpec) started Tryd.func6 (by kernel_rfl) rfl (by kernel_rfl) (by kernel_rfl) ?_ ?_
    (ChangeSpec.witness_shaped (enc := enc) (C := Tryd.checked) (os := os) (X := fun w _ => laidMetH Tryd.prog laidL w) false (World.laidAll Tryd.prog os laidL) #[.int .i64 0, .slice none 0 0, .slice none 0 0] 8 (World.laidAll_os _ _ _)
      (World.shaped_of_ZipB (by kernel_rfl) (by kernel_rfl)) (by kernel_rfl) (by kernel_rfl) (by kernel_rfl)
      (by rw [MakeChecks.laidMetH_plain _ _ _ (by kernel_rfl)]; exact laidMet_laidAll _ (by kernel_rfl) (by kernel_rfl))) ?_
  · intro ds hl
    rw [show Tryd.f6.params.size = 3 by rw [Tryd.params6]; rfl] at hl
    obtain ⟨d0, d1, d2, rfl⟩ := list3 hl
    rfl
  · intro W vs ds ps h
    exact trodAll_len h
  intro W base args ds p hval hA hlt hw hG
  rw [Tryd.params6] at hA hval hw
  obtain ⟨v0, v1, v2, d0, d1, d2, p0, p1, p2, rfl, rfl, rfl, h0, h1, h2⟩ := trodAll_three hA
  obtain ⟨n, rfl, rfl, rfl, _⟩ := open_int Tryd.underlying3 (hval 0 3 v0 rfl rfl) h0
  obtain ⟨A, m, c, l, rfl, hmc, hcm, hL, hO⟩ := open_seeds (hval 1 48 v1 rfl rfl) h1
  obtain ⟨A2, m2, c2, mo, rfl, hS2, _, hA2⟩ := open_bytesN (hval 2 36 v2 rfl rfl) h2
  exact transLong_any n A m c l A2 m2 c2 mo W hL hO hmc hcm hG hS2 hA2

theorem transLong_joined : joinedFacts Tryd.prog 6 Tryd.f6 Rows.transLongSpec Rows.transLongRow = true :=
  joined_of seat_mayEnter seat_lifts seat_make rfl rfl rfl rfl (by kernel_rfl) (by kernel_rfl) (by kernel_rfl) (by kernel_rfl) (by kernel_rfl) (by kernel_rfl) (by kernel_rfl) (by kernel_rfl) (by kernel_rfl) (by kernel_rfl) (by kernel_rfl) (by kernel_rfl) (by kernel_rfl) (by kernel_rfl) (by kernel_rfl) (by kernel_rfl) (by kernel_rfl) (by kernel_rfl) (by kernel_rfl) (by kernel_rfl) (by kernel_rfl) (by kernel_rfl) (by kernel_rfl) (by kernel_rfl) (by kernel_rfl) (by kernel_rfl) (by kernel_rfl) (by kernel_rfl)
theorem transLong_holds : Rows.TransLongSaid :=
  OpenClaim.holds_of_wide 6 Tryd.f6 rfl rfl rfl rfl rfl rfl rfl ⟨rfl, rfl, rfl, rfl, rfl⟩ rfl rfl rfl rfl rfl (by kernel_rfl) Tryd.func6 transLong_joined
    (of_decide_eq_true (by kernel_rfl)) (by unfold Func.isWrapper; first | (rw [if_pos (by decide +kernel)]; kernel_rfl) | (rw [if_neg (by decide +kernel)]; exact ⟨rfl, rfl⟩))
    (fun os started H enc _ => transLong_lifted os started H enc)
theorem transLong_card : Rows.TransLongCardSaid :=
  Claim7.holds_tied_plain_at .later [] [.data] true (true, "6afa14409c1fcf784e159d3dd9af9e0af6fc07a3d3e06aa2c8b4c577951ca517") false transLong_holds (fun _ h => by cases h) (by kernel_rfl) (fun _ h => by cases h) transLong_row_tie rfl ⟨rfl, rfl⟩ seat_main rfl
    (fun f fn hf hfn => by
      obtain rfl : f = 6 := Option.some.inj ((show Tryd.prog.funcNamed "nomenclator/nomenclatorlaw13.TransLong" = some 6 by kernel_rfl).symm.trans hf) |>.symm
      obtain rfl : fn = Tryd.f6 := (Option.some.inj (Tryd.func6.symm.trans hfn)).symm
      exact ⟨by kernel_rfl, fun j t ht => by
        rw [Tryd.params6] at ht
        have hm : t ∈ [3, 48, 36] := by simpa using Array.mem_of_getElem? ht
        have hall : ([3, 48, 36].all fun u => !Tryd.prog.wantsStandIn u) = true := by kernel_rfl
        exact (show Tryd.prog.wantsStandIn t = false by simpa using List.all_eq_true.1 hall t hm)⟩)
    (by kernel_rfl)
end Go.Proofs.YthcpjcgjmdfpjaaDoor
