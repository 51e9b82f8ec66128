/- LlmnrAnswers: the statement LlmnrAnswers is proved (its card); no conditions. Here: LAnswers, LlmnrAnswersCard. -/
import Derived.Test.YthcpjcgjmdfpjaaDoorWordsLlmnr
import Derived.Test.YthcpjcgjmdfpjaaDoorCoreB
import Derived.Test.YthcpjcgjmdfpjaaDoorCoreE
namespace Go.Proofs.YthcpjcgjmdfpjaaDoor
open Go Go.RowKit
set_option maxRecDepth 100000
set_option maxHeartbeats 4000000

def kindsA : List Int := [1, 28, 16, 12]
def kindN (n : Int) : Int := (kindsA[(n % 4).toNat]?).getD 0
theorem kindN_at (n : Int) : kindsA[(n % 4).toNat]? = some (kindN n) := by
  have h : (n % 4).toNat < kindsA.length := by show _ < 4; omega
  unfold kindN
  rw [List.getElem?_eq_getElem h]; rfl
theorem kindN_in (n : Int) : 1 ≤ kindN n ∧ kindN n ≤ 65535 := by
  have h : kindN n ∈ kindsA := List.mem_of_getElem? (kindN_at n)
  simp [kindsA] at h
  omega
theorem slice_kinds (w : World) : (Instr.buildSlice 65 4 #[(0, .int .i64 1), (1, .int .i64 28), (2, .int .i64 16), (3, .int .i64 12)]).run Tryd.prog w = .ok (.slice (some ⟨w.heap.size, 0, none⟩) 4 4) (w.alloc (.cells (kindsA.map (Value.int .i64)).toArray 3)) := by kernel_rfl
theorem llmnrAnswers_any (A : Option Addr) (m c : Nat) (l : List LocalV) (n0 n1 n2 : Int) (reply : Bool) (w0 : World) (hL : Sl LocalV.cells 18 w0 A m l) (h16 : ∀ s ∈ l, s.addr.length = 16) (hG : Glob w0) : Calls Tryd.prog 11 #[.slice A m c, .agg #[.int .i64 n0, .int .i64 n1, .int .i64 n2], .bool reply] w0 fun e w' => e = .returned (.bool true) ∧ Chg (fun _ => False) w0 w' := by
  have hC := Chg.refl (fun _ => False) w0
  have hz16 : zero16.length = 16 := rfl
  have hlm := hL.1
  refine calls_cw (args := [.slice A m c, .agg #[.int .i64 n0, .int .i64 n1, .int .i64 n2], .bool reply]) Tryd.func11 rfl rfl ?_
  show CW _ _ _ 109 [(0, .slice A m c), (1, .agg #[.int .i64 n0, .int .i64 n1, .int .i64 n2]), (2, .bool reply)] w0
  refine CW.rseq ?_
  refine WL.eff rfl (OP.box (by decide) rfl ?_)
  intro w1 hc_w1 hs_w1 hB4
  obtain ⟨b4, he_b4⟩ : ∃ b, b = w0.heap.size := ⟨_, rfl⟩
  rw [← he_b4] at hB4 ⊢
  have hB4 : w1.heap[b4]? = some (.cells #[.int .i64 n0, .int .i64 n1, .int .i64 n2] 64 (0, 0)) := hB4
  have hC := hC.trans hc_w1
  have hz_w1 := hc_w1.size
  refine WL.op (by decide) (R.assign rfl) ?_
  refine WL.next ?_
  refine CW.seq ?_
  refine CW.rseq ?_
  refine WL.eff rfl (OP.call (by decide) Tryd.func32 (by kernel_rfl) (by kernel_rfl) rfl (fit14_any _ (hG.keep0 hC)) ?_)
  rintro ed w2 ⟨rfl, hc_w2⟩
  refine ⟨_, rfl, ?_⟩
  have hB4 := hc_w2.at hB4 (fun e => e)
  have hC := hC.trans hc_w2
  have hz_w2 := hc_w2.size
  refine WL.op (by decide) (R.not rfl) ?_
  refine WL.next ?_
  refine CW.condF rfl ?_
  refine CW.skip ?_
  refine EW.next ?_
  refine CW.seq ?_
  refine CW.rseq ?_
  refine WL.op (by decide) (R.move rfl) ?_
  refine WL.op (by decide) (R.lenSlice rfl Tryd.underlying63 rfl) ?_
  refine WL.gtrS (by decide) rfl rfl (fun h1 => ?_) (fun h1 => ?_)
  · skip
    refine WL.next ?_
    refine CW.condT rfl ?_
    refine CW.rseq ?_
    refine WL.op (by decide) (R.assign rfl) ?_
    refine WL.next ?_
    refine CW.ret ?_
    refine EW.thenRet ?_
    exact EW.ret1 (.inl rfl) rfl rfl ⟨rfl, hC⟩
  · skip
    refine WL.next ?_
    refine CW.condF rfl ?_
    refine CW.skip ?_
    refine EW.next ?_
    refine CW.rseq ?_
    refine WL.eff rfl (OP.buildSlice (parts := [(0, _), (1, _), (2, _), (3, _)]) (vals := [(0, _), (1, _), (2, _), (3, _)]) (cells := (kindsA.map (Value.int .i64)).toArray) (ty := 3) (by decide) rfl slice_kinds ?_)
    intro w3 hc_w3 hs_w3 hN
    have hB4 := hc_w3.at hB4 (fun e => e)
    have hC := hC.trans hc_w3
    have hz_w3 := hc_w3.size
    refine WL.op (by decide) (R.indexArr (i := 2) Tryd.underlying64 sz3 rfl rfl rfl (by decide)) ?_
    refine WL.op (by decide) (R.load Tryd.underlying3 rfl rfl (cell_at hB4 rfl)) ?_
    refine WL.op (by decide) (R.mask 2 rfl rfl (by decide) rfl rfl) ?_
    refine WL.op (by decide) (R.indexAddr1 (i := (n2 % 4).toNat) Tryd.underlying65 sz3 rfl rfl (by omega) (by omega)) ?_
    refine WL.op (by decide) (R.load Tryd.underlying3 rfl rfl (by rw [Nat.zero_add, Nat.mul_one]; exact cell_at hN (by rw [List.getElem?_toArray, List.getElem?_map, kindN_at n2]; rfl))) ?_
    refine WL.op (by decide) (R.assign rfl) ?_
    refine WL.next ?_
    refine CW.seq ?_
    have hB4_d := hB4
    refine CW.draw (fun w => w.heap[b4]? = w3.heap[b4]?) (by kernel_rfl) ?_
    have hc_w4 : Chg (fun _ => False) w3 w3.drew := Chg.drew _ _
    obtain ⟨w4, he_w4⟩ : ∃ w, w = w3.drew := ⟨_, rfl⟩
    rw [← he_w4] at hc_w4 ⊢
    have hB4 := hc_w4.at hB4 (fun e => e)
    have hC := hC.trans hc_w4
    have hz_w4 := hc_w4.size
    refine AH.take 0 rfl (by kernel_rfl) (by kernel_rfl) (by kernel_rfl) (fun _ _ _ _ h => h) (hB4.trans hB4_d.symm) (by decide) (fun w hS => R.indexArr (i := 1) Tryd.underlying64 sz3 rfl rfl rfl (by decide)) ?_
    refine AH.take 1 rfl (by kernel_rfl) (by kernel_rfl) (by kernel_rfl) (fun _ _ _ _ h => h) (hB4.trans hB4_d.symm) (by decide) (fun w hS => R.load Tryd.underlying3 rfl rfl (cell_at (hS.trans hB4_d) rfl)) ?_
    refine AH.take 2 rfl (by kernel_rfl) (by kernel_rfl) (by kernel_rfl) (fun _ _ _ _ h => h) (hB4.trans hB4_d.symm) (by decide) (fun w hS => R.mask 16 rfl rfl (by decide) rfl rfl) ?_
    refine AH.take 3 rfl (by kernel_rfl) (by kernel_rfl) (by kernel_rfl) (fun _ _ _ _ h => h) (hB4.trans hB4_d.symm) (by decide) (fun w hS => R.move rfl) ?_
    refine AH.take 4 rfl (by kernel_rfl) (by kernel_rfl) (by kernel_rfl) (fun _ _ _ _ h => h) (hB4.trans hB4_d.symm) (by decide) (fun w hS => R.indexArr (i := 0) Tryd.underlying64 sz3 rfl rfl rfl (by decide)) ?_
    refine AH.take 5 rfl (by kernel_rfl) (by kernel_rfl) (by kernel_rfl) (fun _ _ _ _ h => h) (hB4.trans hB4_d.symm) (by decide) (fun w hS => R.load Tryd.underlying3 rfl rfl (cell_at (hS.trans hB4_d) rfl)) ?_
    refine AH.take 7 rfl (by kernel_rfl) (by kernel_rfl) (by kernel_rfl) (fun _ _ _ _ h => h) (hB4.trans hB4_d.symm) (by decide) (fun w hS => R.move rfl) ?_
    refine AH.either 6 10 (by kernel_rfl) rfl rfl rfl rfl ?_ ?_
    · skip
      refine (OP.call (by decide) Tryd.func33 (by kernel_rfl) (by kernel_rfl) rfl (name_any _ _) ?_)
      rintro ed w5 ⟨rfl, hc_w5⟩
      refine ⟨_, rfl, ?_⟩
      have hB4 := hc_w5.at hB4 (fun e => e)
      have hC := hC.trans hc_w5
      have hz_w5 := hc_w5.size
      refine ⟨hB4.trans hB4_d.symm, ?_⟩
      refine AH.take 8 rfl (by kernel_rfl) (by kernel_rfl) (by kernel_rfl) (fun _ _ _ _ h => h) (hB4.trans hB4_d.symm) (by decide) (fun w hS => R.build (parts := [(0, _), (1, _)]) (vals := [(0, _), (1, _)]) rfl (fun w => build25_2 (nameN n0) _ w)) ?_
      refine AH.take 9 rfl (by kernel_rfl) (by kernel_rfl) (by kernel_rfl) (fun _ _ _ _ h => h) (hB4.trans hB4_d.symm) (by decide) (fun w hS => R.build (parts := [(0, _), (1, _), (5, _)]) (vals := [(0, _), (1, _), (5, _)]) rfl (fun w => build33_rq _ _ _ _ w)) ?_
      refine AH.eff 10 (by kernel_rfl) rfl rfl (OP.allocM (by decide) ?_)
      intro w6 hc_w6 hs_w6 hB8
      obtain ⟨b8, he_b8⟩ : ∃ b, b = w5.heap.size := ⟨_, rfl⟩
      rw [← he_b8] at hB8 ⊢
      have hB4 := hc_w6.at hB4 (fun e => e)
      have hC := hC.trans hc_w6
      have hz_w6 := hc_w6.size
      refine ⟨hB4.trans hB4_d.symm, ?_⟩
      refine AH.eff 11 (by kernel_rfl) rfl rfl (OP.storeM rfl rfl hB8 ?_)
      intro w7 hc_w7 hs_w7 hB8
      have hB4 := hc_w7.at hB4 (fun e => by omega)
      have hC := hC.thenB hc_w7 (by omega)
      refine ⟨hB4.trans hB4_d.symm, ?_⟩
      refine AH.done (by kernel_rfl) ?_
      refine EW.next ?_
      refine CW.rseq ?_
      obtain ⟨M, hM⟩ : ∃ M, M = (⟨n1 % ((2 ^ 16 : Nat) : Int), reply, false, false, 0, nameN n0, kindN n2, [], []⟩ : Msg) := ⟨_, rfl⟩
      have hbM : MBack M := by rw [hM]; exact MBack.quest (by omega) (kindN_in n2) (nameN_ok n0).1 (nameN_ok n0).2.1
      have hMq : M.qtype = kindN n2 := by rw [hM]
      rw [← hM] at hB8
      rw [← hMq]
      refine WL.op (by decide) (R.move rfl) ?_
      refine WL.op (by decide) (R.loadM rfl hB8) ?_
      refine WL.eff rfl (OP.call (by decide) Tryd.func24 (by kernel_rfl) (by kernel_rfl) rfl (encode_src _ _ _ ⟨_, _, rfl, (by rw [hM]; exact RSl.nil _), (by rw [hM]; exact RSl.nil _)⟩ (hbM)) ?_)
      rintro ed w8 ⟨gE, ceE, bsE, rfl, hbsE, hBufE, hSrcE, hmoreE, hdecE, hblE, hgeE, hglE, hc_w8⟩
      refine ⟨_, rfl, ?_⟩
      have hB4 := hc_w8.at hB4 (fun e => e)
      have hB8 := hc_w8.at hB8 (fun e => e)
      have hC := hC.trans hc_w8
      have hz_w8 := hc_w8.size
      have hK8 : Chg (fun _ => False) w8 w8 := Chg.refl _ _
      refine WL.eff rfl (OP.call (by decide) Tryd.func34 (by kernel_rfl) (by kernel_rfl) rfl (answer_any [99, 111, 114, 112] _ _ _ l _ _ _ _ _ _ (hL.keep0 hC) h16 (by omega) (hSrcE.keep0 hK8) (by rintro _ _ ⟨⟩; omega) hblE hdecE hbM (hG.keep0 hC)) ?_)
      rintro ed w9 ⟨hc_w9, hres⟩
      have hB4 := hc_w9.at hB4 (fun e => e)
      have hB8 := hc_w9.at hB8 (fun e => e)
      have hC := hC.trans hc_w9
      have hK8 := hK8.trans hc_w9
      have hz_w9 := hc_w9.size
      cases hans : answers [99, 111, 114, 112] M
      · skip
        obtain rfl := hres.isNo hans
        refine ⟨_, rfl, ?_⟩
        refine WL.op (by decide) (R.move rfl) ?_
        refine WL.op (by decide) (R.extract rfl rfl) ?_
        refine WL.op (by decide) (R.extract rfl rfl) ?_
        refine WL.op (by decide) (R.assign rfl) ?_
        refine WL.op (by decide) (R.assign rfl) ?_
        refine WL.next ?_
        refine CW.seq ?_
        refine CW.rseq ?_
        have hZ : Chg (fun _ => False) w9 w9 := Chg.refl _ _
        refine WL.cut 9 (fun le w' => Chg (fun _ => False) w9 w' ∧ le = [(0, .slice A m c), (7, .int .i64 M.qtype), (8, .pointer (some ⟨b8, 0, none⟩)), (9, .slice none 0 0), (10, .bool false), (44, .bool false), (52, .bool (answers [99, 111, 114, 112] M))]) ?_ ?_
        ·
          refine WL.op (by decide) (R.move rfl) ?_
          refine WL.op (by decide) (R.move rfl) ?_
          cases hrep : reply
          · skip
            skip
            refine WL.op (by decide) (R.not rfl) ?_
            refine WL.op (by decide) (R.move rfl) ?_
            refine WL.gop (by decide) rfl rfl rfl (R.indexArr (i := 0) Tryd.underlying64 sz3 rfl rfl rfl (by decide)) ?_
            refine WL.gop (by decide) rfl rfl rfl (R.load Tryd.underlying3 rfl rfl (cell_at hB4 rfl)) ?_
            refine WL.geff rfl rfl rfl (OP.call (by decide) Tryd.func33 (by kernel_rfl) (by kernel_rfl) rfl (name_any _ _) ?_)
            rintro ed w10 ⟨rfl, hc_w10⟩
            refine ⟨_, rfl, ?_⟩
            have hB4 := hc_w10.at hB4 (fun e => e)
            have hB8 := hc_w10.at hB8 (fun e => e)
            have hC := hC.trans hc_w10
            have hK8 := hK8.trans hc_w10
            have hZ := hZ.trans hc_w10
            have hz_w10 := hc_w10.size
            refine WL.gsplit _ (by decide) rfl rfl rfl (R.eqlStr (a := nameN n0) (b := [99, 111, 114, 112]) rfl rfl) (fun h2 => ?_) (fun h2 => ?_)
            · skip
              refine WL.op (by decide) (R.pickT rfl rfl) ?_
              exact WL.cutEnd [0, 7, 8, 9, 10, 44, 52] ⟨hZ, by rw [show answers [99, 111, 114, 112] M = true from by rw [hM]; simp [answers, *]]; rfl⟩
            · skip
              refine WL.op (by decide) (R.pickT rfl rfl) ?_
              exact WL.cutEnd [0, 7, 8, 9, 10, 44, 52] ⟨hZ, by rw [show answers [99, 111, 114, 112] M = false from by rw [hM]; simp [answers, *]]; rfl⟩
          · skip
            skip
            refine WL.op (by decide) (R.not rfl) ?_
            refine WL.op (by decide) (R.move rfl) ?_
            refine WL.pass (by decide) rfl rfl rfl ?_
            refine WL.pass (by decide) rfl rfl rfl ?_
            refine WL.pass (by decide) rfl rfl rfl ?_
            refine WL.pass (by decide) rfl rfl rfl ?_
            refine WL.op (by decide) (R.pickF rfl rfl) ?_
            exact WL.cutEnd [0, 7, 8, 9, 10, 44, 52] ⟨hZ, by rw [show answers [99, 111, 114, 112] M = false from by rw [hM]; simp [answers, *]]; rfl⟩
        · rintro le wz11 ⟨hc_wz11, rfl⟩
          have hB4 := hc_wz11.at hB4 (fun e => e)
          have hB8 := hc_wz11.at hB8 (fun e => e)
          have hC := hC.trans hc_wz11
          have hK8 := hK8.trans hc_wz11
          have hZ := hZ.trans hc_wz11
          have hz_wz11 := hc_wz11.size
          refine WL.op (by decide) (R.neqB (c := false) rfl rfl (by rw [hans]; rfl)) ?_
          refine WL.next ?_
          refine CW.condF rfl ?_
          refine CW.skip ?_
          refine EW.next ?_
          refine CW.seq ?_
          refine CW.rseq ?_
          refine WL.op (by decide) (R.move rfl) ?_
          refine WL.op (by decide) (R.not rfl) ?_
          refine WL.next ?_
          refine CW.condT rfl ?_
          refine CW.rseq ?_
          refine WL.op (by decide) (R.move rfl) ?_
          refine WL.op (by decide) (R.lenSlice rfl Tryd.underlying36 rfl) ?_
          refine WL.op (by decide) (R.eql rfl rfl (decide_eq_true (rfl))) ?_
          refine WL.op (by decide) (R.assign rfl) ?_
          refine WL.next ?_
          refine CW.ret ?_
          refine EW.thenRet ?_
          exact EW.ret1 (.inl rfl) rfl rfl ⟨rfl, hC⟩
      · skip
        obtain ⟨gA, ceA, bsA, rfl, hSrcA, hmoreA, hdecA, hblA, hgeA, hglA⟩ := hres.isYes hans
        have hK11 : Chg (fun _ => False) w9 w9 := Chg.refl _ _
        refine ⟨_, rfl, ?_⟩
        refine WL.op (by decide) (R.move rfl) ?_
        refine WL.op (by decide) (R.extract rfl rfl) ?_
        refine WL.op (by decide) (R.extract rfl rfl) ?_
        refine WL.op (by decide) (R.assign rfl) ?_
        refine WL.op (by decide) (R.assign rfl) ?_
        refine WL.next ?_
        refine CW.seq ?_
        refine CW.rseq ?_
        have hZ : Chg (fun _ => False) w9 w9 := Chg.refl _ _
        refine WL.cut 9 (fun le w' => Chg (fun _ => False) w9 w' ∧ le = [(0, .slice A m c), (7, .int .i64 M.qtype), (8, .pointer (some ⟨b8, 0, none⟩)), (9, .slice (some ⟨gA, 0, none⟩) bsA.length ceA), (10, .bool true), (44, .bool true), (52, .bool (answers [99, 111, 114, 112] M))]) ?_ ?_
        ·
          refine WL.op (by decide) (R.move rfl) ?_
          refine WL.op (by decide) (R.move rfl) ?_
          cases hrep : reply
          · skip
            skip
            refine WL.op (by decide) (R.not rfl) ?_
            refine WL.op (by decide) (R.move rfl) ?_
            refine WL.gop (by decide) rfl rfl rfl (R.indexArr (i := 0) Tryd.underlying64 sz3 rfl rfl rfl (by decide)) ?_
            refine WL.gop (by decide) rfl rfl rfl (R.load Tryd.underlying3 rfl rfl (cell_at hB4 rfl)) ?_
            refine WL.geff rfl rfl rfl (OP.call (by decide) Tryd.func33 (by kernel_rfl) (by kernel_rfl) rfl (name_any _ _) ?_)
            rintro ed w12 ⟨rfl, hc_w12⟩
            refine ⟨_, rfl, ?_⟩
            have hB4 := hc_w12.at hB4 (fun e => e)
            have hB8 := hc_w12.at hB8 (fun e => e)
            have hC := hC.trans hc_w12
            have hK8 := hK8.trans hc_w12
            have hK11 := hK11.trans hc_w12
            have hZ := hZ.trans hc_w12
            have hz_w12 := hc_w12.size
            refine WL.gsplit _ (by decide) rfl rfl rfl (R.eqlStr (a := nameN n0) (b := [99, 111, 114, 112]) rfl rfl) (fun h3 => ?_) (fun h3 => ?_)
            · skip
              refine WL.op (by decide) (R.pickT rfl rfl) ?_
              exact WL.cutEnd [0, 7, 8, 9, 10, 44, 52] ⟨hZ, by rw [show answers [99, 111, 114, 112] M = true from by rw [hM]; simp [answers, *]]; rfl⟩
            · skip
              refine WL.op (by decide) (R.pickT rfl rfl) ?_
              exact WL.cutEnd [0, 7, 8, 9, 10, 44, 52] ⟨hZ, by rw [show answers [99, 111, 114, 112] M = false from by rw [hM]; simp [answers, *]]; rfl⟩
          · skip
            skip
            refine WL.op (by decide) (R.not rfl) ?_
            refine WL.op (by decide) (R.move rfl) ?_
            refine WL.pass (by decide) rfl rfl rfl ?_
            refine WL.pass (by decide) rfl rfl rfl ?_
            refine WL.pass (by decide) rfl rfl rfl ?_
            refine WL.pass (by decide) rfl rfl rfl ?_
            refine WL.op (by decide) (R.pickF rfl rfl) ?_
            exact WL.cutEnd [0, 7, 8, 9, 10, 44, 52] ⟨hZ, by rw [show answers [99, 111, 114, 112] M = false from by rw [hM]; simp [answers, *]]; rfl⟩
        · rintro le wz13 ⟨hc_wz13, rfl⟩
          have hB4 := hc_wz13.at hB4 (fun e => e)
          have hB8 := hc_wz13.at hB8 (fun e => e)
          have hC := hC.trans hc_wz13
          have hK8 := hK8.trans hc_wz13
          have hK11 := hK11.trans hc_wz13
          have hZ := hZ.trans hc_wz13
          have hz_wz13 := hc_wz13.size
          refine WL.op (by decide) (R.neqB (c := false) rfl rfl (by rw [hans]; rfl)) ?_
          refine WL.next ?_
          refine CW.condF rfl ?_
          refine CW.skip ?_
          refine EW.next ?_
          refine CW.seq ?_
          refine CW.rseq ?_
          refine WL.op (by decide) (R.move rfl) ?_
          refine WL.op (by decide) (R.not rfl) ?_
          refine WL.next ?_
          refine CW.condF rfl ?_
          refine CW.skip ?_
          refine EW.next ?_
          refine CW.rseq ?_
          refine WL.op (by decide) (R.move rfl) ?_
          refine WL.eff rfl (OP.call (by decide) Tryd.func27 (by kernel_rfl) (by kernel_rfl) rfl (decode_any _ _ _ _ _ (hSrcA.keep0 hK11) (by rintro _ _ ⟨⟩; omega) (by omega) (hG.keep0 hC)) ?_)
          rintro ed w14 ⟨hc_w14, hres⟩
          rw [hdecA] at hres
          obtain ⟨vD, rfl, vaD, vbD, rfl, hvaD, hvbD, hoaD, hobD⟩ := hres
          obtain ⟨AaD, caD, rfl, _⟩ := hvaD.form
          obtain ⟨AbD, cbD, rfl, _⟩ := hvbD.form
          have hlenD := len_dec hdecA
          refine ⟨_, rfl, ?_⟩
          have hB4 := hc_w14.at hB4 (fun e => e)
          have hB8 := hc_w14.at hB8 (fun e => e)
          have hC := hC.trans hc_w14
          have hK8 := hK8.trans hc_w14
          have hK11 := hK11.trans hc_w14
          have hZ := hZ.trans hc_w14
          have hz_w14 := hc_w14.size
          have hK14 : Chg (fun _ => False) w14 w14 := Chg.refl _ _
          refine WL.op (by decide) (R.move rfl) ?_
          refine WL.op (by decide) (R.extract rfl rfl) ?_
          refine WL.op (by decide) (R.extract rfl rfl) ?_
          refine WL.eff rfl (OP.allocM (by decide) ?_)
          intro w15 hc_w15 hs_w15 hB11
          obtain ⟨b11, he_b11⟩ : ∃ b, b = w14.heap.size := ⟨_, rfl⟩
          rw [← he_b11] at hB11 ⊢
          have hB4 := hc_w15.at hB4 (fun e => e)
          have hB8 := hc_w15.at hB8 (fun e => e)
          have hC := hC.trans hc_w15
          have hK8 := hK8.trans hc_w15
          have hK11 := hK11.trans hc_w15
          have hZ := hZ.trans hc_w15
          have hK14 := hK14.trans hc_w15
          have hz_w15 := hc_w15.size
          refine WL.eff rfl (OP.storeM rfl rfl hB11 ?_)
          intro w16 hc_w16 hs_w16 hB11
          have hB4 := hc_w16.at hB4 (fun e => by omega)
          have hB8 := hc_w16.at hB8 (fun e => by omega)
          have hC := hC.thenB hc_w16 (by omega)
          have hK8 := hK8.thenB hc_w16 (by omega)
          have hK11 := hK11.thenB hc_w16 (by omega)
          have hZ := hZ.thenB hc_w16 (by omega)
          have hK14 := hK14.thenB hc_w16 (by omega)
          refine WL.op (by decide) (R.assign rfl) ?_
          refine WL.next ?_
          refine CW.rseq ?_
          refine WL.op (by decide) (FA33_0 rfl) ?_
          refine WL.op (by decide) (R.load Tryd.underlying3 rfl rfl (cell_at hB8 rfl)) ?_
          refine WL.op (by decide) (FA33_5 rfl) ?_
          refine WL.op (by decide) (R.loadQ rfl hB8) ?_
          refine WL.op (by decide) (R.build (parts := [(0, _), (1, _), (5, _)]) (vals := [(0, _), (1, _), (5, _)]) rfl (fun w => build33_rq _ true _ _ w)) ?_
          refine WL.eff rfl (OP.allocM (by decide) ?_)
          intro w17 hc_w17 hs_w17 hB13
          obtain ⟨b13, he_b13⟩ : ∃ b, b = w16.heap.size := ⟨_, rfl⟩
          rw [← he_b13] at hB13 ⊢
          have hB4 := hc_w17.at hB4 (fun e => e)
          have hB8 := hc_w17.at hB8 (fun e => e)
          have hB11 := hc_w17.at hB11 (fun e => e)
          have hC := hC.trans hc_w17
          have hK8 := hK8.trans hc_w17
          have hK11 := hK11.trans hc_w17
          have hZ := hZ.trans hc_w17
          have hK14 := hK14.trans hc_w17
          have hz_w17 := hc_w17.size
          refine WL.eff rfl (OP.storeM rfl rfl hB13 ?_)
          intro w18 hc_w18 hs_w18 hB13
          have hB4 := hc_w18.at hB4 (fun e => by omega)
          have hB8 := hc_w18.at hB8 (fun e => by omega)
          have hB11 := hc_w18.at hB11 (fun e => by omega)
          have hC := hC.thenB hc_w18 (by omega)
          have hK8 := hK8.thenB hc_w18 (by omega)
          have hK11 := hK11.thenB hc_w18 (by omega)
          have hZ := hZ.thenB hc_w18 (by omega)
          have hK14 := hK14.thenB hc_w18 (by omega)
          refine WL.next ?_
          refine CW.seq ?_
          refine CW.rseq ?_
          obtain ⟨base, he_base⟩ : ∃ b, b = w18.heap.size := ⟨_, rfl⟩
          refine WL.op (by decide) (R.move rfl) ?_
          refine WL.op (by decide) (R.lenSlice rfl Tryd.underlying63 rfl) ?_
          refine WL.op (by decide) (R.move rfl) ?_
          refine WL.next ?_
          refine CW.block ?_
          refine CW.loopK [0, 7, 11, 12, 13, 69, 70, 71] (fun k le wr => Chg (fun _ => False) w0 wr ∧ Chg (fun _ => False) w14 wr ∧ base ≤ wr.heap.size ∧ ∃ (j : Nat) (jj : Int) (A1 : Option Addr) (c1 : Nat), j + k = l.length ∧ jj = (j : Int) ∧ le = [(0, .slice A m c), (7, .int .i64 M.qtype), (11, .pointer (some ⟨b11, 0, none⟩)), (12, .int .i64 0), (13, .pointer (some ⟨b13, 0, none⟩)), (69, .slice A m c), (70, .int .i64 m), (71, .int .i64 jj)] ∧ BM wr b11 (ansM [99, 111, 114, 112] M l) (.slice AaD (ansM [99, 111, 114, 112] M l).ans.length caD) (.slice AbD (ansM [99, 111, 114, 112] M l).auth.length cbD) ∧ BM wr b13 (ansM [99, 111, 114, 112] M (l.take j)) (.slice A1 (ansL [99, 111, 114, 112] M.qtype (l.take j)).length c1) (.slice none 0 0) ∧ RBuf wr base (.slice A1 (ansL [99, 111, 114, 112] M.qtype (l.take j)).length c1) (ansL [99, 111, 114, 112] M.qtype (l.take j))) (l.length) ?_ ?_
          · exact ⟨hC, hK14, by omega, 0, 0, none, 0, by omega, rfl, rfl, hB11, hB13, RBuf.nil _ _⟩
          · rintro k le wr ⟨hC, hK14, hbw, j, jj, A1, c1, hk, rfl, rfl, hB11, hB13, hRB⟩
            have hK : Chg (fun _ => False) wr wr := Chg.refl _ _
            have hll := ansL_len2 [99, 111, 114, 112] M.qtype l j
            have hz_hC := hC.size
            have hz_hK14 := hK14.size
            have hz_hK := hK.size
            refine CW.rseq ?_
            refine WL.lssS (by decide) rfl rfl (fun h4 => ?_) (fun h4 => ?_)
            · skip
              refine WL.next ?_
              refine CW.seq ?_
              refine CW.condT rfl ?_
              refine CW.skip ?_
              refine EW.next ?_
              refine CW.seq ?_
              refine CW.block ?_
              refine CW.rseq ?_
              obtain ⟨s, hs⟩ : ∃ s, l[j]? = some s := ⟨l[j]'(by omega), List.getElem?_eq_getElem _⟩
              obtain ⟨hlm2, g, o, hA, hcell⟩ := (hL.kept hC).at hs
              subst hA
              have hs16 := h16 s (List.mem_of_getElem? hs)
              refine WL.op (by decide) (R.indexAddr1 (i := j) Tryd.underlying63 sz70 rfl rfl (by omega) (by omega)) ?_
              refine WL.op (by decide) (R.loadLoAt hs16 rfl hcell) ?_
              refine WL.eff rfl (OP.allocLo (by decide) ?_)
              intro w19 hc_w19 hs_w19 hB15
              obtain ⟨b15, he_b15⟩ : ∃ b, b = wr.heap.size := ⟨_, rfl⟩
              rw [← he_b15] at hB15 ⊢
              have hB11 := hc_w19.at hB11 (fun e => e)
              have hB13 := hc_w19.at hB13 (fun e => e)
              have hC := hC.trans hc_w19
              have hK14 := hK14.trans hc_w19
              have hK := hK.trans hc_w19
              have hz_w19 := hc_w19.size
              refine WL.eff rfl (OP.storeLo (by assumption) (by first | rfl | assumption) rfl rfl hB15 ?_)
              intro w20 hc_w20 hs_w20 hB15
              have hB11 := hc_w20.at hB11 (fun e => by omega)
              have hB13 := hc_w20.at hB13 (fun e => by omega)
              have hC := hC.thenB hc_w20 (by omega)
              have hK14 := hK14.thenB hc_w20 (by omega)
              have hK := hK.thenB hc_w20 (by omega)
              refine WL.next ?_
              refine CW.rseq ?_
              have hY : Chg (fun _ => False) w20 w20 := Chg.refl _ _
              refine WL.cut 17 (fun le w' => Chg (fun _ => False) w20 w' ∧ le = [(0, .slice (some ⟨g, o, none⟩) m c), (7, .int .i64 M.qtype), (11, .pointer (some ⟨b11, 0, none⟩)), (12, .int .i64 0), (13, .pointer (some ⟨b13, 0, none⟩)), (15, .pointer (some ⟨b15, 0, none⟩)), (69, .slice (some ⟨g, o, none⟩) m c), (70, .int .i64 m), (71, .int .i64 (j : Int)), (91, .bool (fits M.qtype s))]) ?_ ?_
              ·
                refine WL.op (by decide) (R.move rfl) ?_
                refine WL.eqlS (by decide) rfl rfl (fun h5 => ?_) (fun h5 => ?_)
                · skip
                  refine WL.op (by decide) (R.move rfl) ?_
                  refine WL.gop (by decide) rfl rfl rfl (FA70_0 rfl) ?_
                  refine WL.gop (by decide) rfl rfl rfl (R.loadLoA (by assumption) rfl hB15) ?_
                  refine WL.geff rfl rfl rfl (OP.call (by decide) Tryd.func35 (by kernel_rfl) (by kernel_rfl) rfl (is4_any _ _ (by assumption)) ?_)
                  rintro ed w21 ⟨rfl, hc_w21⟩
                  have hB11 := hc_w21.at hB11 (fun e => e)
                  have hB13 := hc_w21.at hB13 (fun e => e)
                  have hB15 := hc_w21.at hB15 (fun e => e)
                  have hC := hC.trans hc_w21
                  have hK14 := hK14.trans hc_w21
                  have hK := hK.trans hc_w21
                  have hY := hY.trans hc_w21
                  have hz_w21 := hc_w21.size
                  cases h4 : is4 s.addr
                  · skip
                    refine ⟨_, rfl, ?_⟩
                    refine WL.op (by decide) (R.pickT rfl rfl) ?_
                    refine WL.op (by decide) (R.move rfl) ?_
                    refine WL.gop (by decide) rfl rfl rfl (R.move rfl) ?_
                    refine WL.gsplit _ (by decide) rfl rfl rfl (R.eqlD rfl rfl) (fun h6 => ?_) (fun h6 => ?_)
                    · skip
                      refine WL.gop (by decide) rfl rfl rfl (R.move rfl) ?_
                      refine WL.gop (by decide) rfl rfl rfl (FA70_0 rfl) ?_
                      refine WL.gop (by decide) rfl rfl rfl (R.loadLoA (by assumption) rfl hB15) ?_
                      refine WL.geff rfl rfl rfl (OP.call (by decide) Tryd.func35 (by kernel_rfl) (by kernel_rfl) rfl (is4_any _ _ (by assumption)) ?_)
                      rintro ed w22 ⟨rfl, hc_w22⟩
                      have hB11 := hc_w22.at hB11 (fun e => e)
                      have hB13 := hc_w22.at hB13 (fun e => e)
                      have hB15 := hc_w22.at hB15 (fun e => e)
                      have hC := hC.trans hc_w22
                      have hK14 := hK14.trans hc_w22
                      have hK := hK.trans hc_w22
                      have hY := hY.trans hc_w22
                      have hz_w22 := hc_w22.size
                      cases h4b : is4 s.addr
                      · skip
                        refine ⟨_, rfl, ?_⟩
                        refine WL.gop (by decide) rfl rfl rfl (R.not rfl) ?_
                        refine WL.gop (by decide) rfl rfl rfl (R.pickT rfl rfl) ?_
                        refine WL.op (by decide) (R.pickF rfl rfl) ?_
                        exact WL.cutEnd [0, 7, 11, 12, 13, 15, 69, 70, 71, 91] ⟨hY, by rw [show fits M.qtype s = true from by simp_all]; rfl⟩
                      · skip
                        refine ⟨_, rfl, ?_⟩
                        refine WL.gop (by decide) rfl rfl rfl (R.not rfl) ?_
                        refine WL.gop (by decide) rfl rfl rfl (R.pickT rfl rfl) ?_
                        refine WL.op (by decide) (R.pickF rfl rfl) ?_
                        exact WL.cutEnd [0, 7, 11, 12, 13, 15, 69, 70, 71, 91] ⟨hY, by rw [show fits M.qtype s = false from by simp_all]; rfl⟩
                    · skip
                      refine WL.gop (by decide) rfl rfl rfl (R.move rfl) ?_
                      refine WL.pass (by decide) rfl rfl rfl ?_
                      refine WL.pass (by decide) rfl rfl rfl ?_
                      refine WL.pass (by decide) rfl rfl rfl ?_
                      refine WL.pass (by decide) rfl rfl rfl ?_
                      refine WL.gop (by decide) rfl rfl rfl (R.pickF rfl rfl) ?_
                      refine WL.op (by decide) (R.pickF rfl rfl) ?_
                      exact WL.cutEnd [0, 7, 11, 12, 13, 15, 69, 70, 71, 91] ⟨hY, by rw [show fits M.qtype s = false from by simp_all [fits]]; rfl⟩
                  · skip
                    refine ⟨_, rfl, ?_⟩
                    refine WL.op (by decide) (R.pickT rfl rfl) ?_
                    refine WL.op (by decide) (R.move rfl) ?_
                    refine WL.pass (by decide) rfl rfl rfl ?_
                    refine WL.pass (by decide) rfl rfl rfl ?_
                    refine WL.pass (by decide) rfl rfl rfl ?_
                    refine WL.passU (by decide) rfl rfl ?_
                    refine WL.passU (by decide) rfl rfl ?_
                    refine WL.passU (by decide) rfl rfl ?_
                    refine WL.passU (by decide) rfl rfl ?_
                    refine WL.pass (by decide) rfl rfl rfl ?_
                    refine WL.op (by decide) (R.pickT rfl rfl) ?_
                    exact WL.cutEnd [0, 7, 11, 12, 13, 15, 69, 70, 71, 91] ⟨hY, by rw [show fits M.qtype s = true from by simp_all [fits]]; rfl⟩
                · skip
                  refine WL.op (by decide) (R.move rfl) ?_
                  refine WL.pass (by decide) rfl rfl rfl ?_
                  refine WL.pass (by decide) rfl rfl rfl ?_
                  refine WL.pass (by decide) rfl rfl rfl ?_
                  refine WL.op (by decide) (R.pickF rfl rfl) ?_
                  refine WL.op (by decide) (R.move rfl) ?_
                  refine WL.gop (by decide) rfl rfl rfl (R.move rfl) ?_
                  refine WL.gsplit _ (by decide) rfl rfl rfl (R.eqlD rfl rfl) (fun h7 => ?_) (fun h7 => ?_)
                  · skip
                    refine WL.gop (by decide) rfl rfl rfl (R.move rfl) ?_
                    refine WL.gop (by decide) rfl rfl rfl (FA70_0 rfl) ?_
                    refine WL.gop (by decide) rfl rfl rfl (R.loadLoA (by assumption) rfl hB15) ?_
                    refine WL.geff rfl rfl rfl (OP.call (by decide) Tryd.func35 (by kernel_rfl) (by kernel_rfl) rfl (is4_any _ _ (by assumption)) ?_)
                    rintro ed w23 ⟨rfl, hc_w23⟩
                    have hB11 := hc_w23.at hB11 (fun e => e)
                    have hB13 := hc_w23.at hB13 (fun e => e)
                    have hB15 := hc_w23.at hB15 (fun e => e)
                    have hC := hC.trans hc_w23
                    have hK14 := hK14.trans hc_w23
                    have hK := hK.trans hc_w23
                    have hY := hY.trans hc_w23
                    have hz_w23 := hc_w23.size
                    cases h4b : is4 s.addr
                    · skip
                      refine ⟨_, rfl, ?_⟩
                      refine WL.gop (by decide) rfl rfl rfl (R.not rfl) ?_
                      refine WL.gop (by decide) rfl rfl rfl (R.pickT rfl rfl) ?_
                      refine WL.op (by decide) (R.pickF rfl rfl) ?_
                      exact WL.cutEnd [0, 7, 11, 12, 13, 15, 69, 70, 71, 91] ⟨hY, by rw [show fits M.qtype s = true from by simp_all [fits]]; rfl⟩
                    · skip
                      refine ⟨_, rfl, ?_⟩
                      refine WL.gop (by decide) rfl rfl rfl (R.not rfl) ?_
                      refine WL.gop (by decide) rfl rfl rfl (R.pickT rfl rfl) ?_
                      refine WL.op (by decide) (R.pickF rfl rfl) ?_
                      exact WL.cutEnd [0, 7, 11, 12, 13, 15, 69, 70, 71, 91] ⟨hY, by rw [show fits M.qtype s = false from by simp_all [fits]]; rfl⟩
                  · skip
                    refine WL.gop (by decide) rfl rfl rfl (R.move rfl) ?_
                    refine WL.pass (by decide) rfl rfl rfl ?_
                    refine WL.pass (by decide) rfl rfl rfl ?_
                    refine WL.pass (by decide) rfl rfl rfl ?_
                    refine WL.pass (by decide) rfl rfl rfl ?_
                    refine WL.gop (by decide) rfl rfl rfl (R.pickF rfl rfl) ?_
                    refine WL.op (by decide) (R.pickF rfl rfl) ?_
                    exact WL.cutEnd [0, 7, 11, 12, 13, 15, 69, 70, 71, 91] ⟨hY, by rw [show fits M.qtype s = false from by simp_all [fits]]; rfl⟩
              · rintro le wz24 ⟨hc_wz24, rfl⟩
                have hB11 := hc_wz24.at hB11 (fun e => e)
                have hB13 := hc_wz24.at hB13 (fun e => e)
                have hB15 := hc_wz24.at hB15 (fun e => e)
                have hC := hC.trans hc_wz24
                have hK14 := hK14.trans hc_wz24
                have hK := hK.trans hc_wz24
                have hY := hY.trans hc_wz24
                have hz_wz24 := hc_wz24.size
                cases hfit : fits M.qtype s
                · skip
                  have hN1 := ansL_same (own := [99, 111, 114, 112]) hs hfit
                  refine WL.next ?_
                  refine CW.condF rfl ?_
                  refine CW.skip ?_
                  refine EW.inNormal ?_
                  refine EW.next ?_
                  refine CW.region ?_
                  refine WL.op (by decide) (R.add rfl rfl (by omega)) ?_
                  refine WL.op (by decide) (R.move rfl) ?_
                  refine WL.nil ?_
                  exact EW.roundK [0, 7, 11, 12, 13, 69, 70, 71] (k - 1) (by omega) ⟨hC, hK14, by omega, j + 1, (j : Int) + 1, A1, c1, by omega, by omega, rfl, hB11, by rw [hN1]; exact hB13, by rw [hN1]; exact hRB.kept hK (fun _ _ e => e)⟩
                · skip
                  have hN1 := ansL_snoc (own := [99, 111, 114, 112]) hs hfit
                  refine WL.next ?_
                  refine CW.condT rfl ?_
                  refine CW.region ?_
                  refine WL.op (by decide) (FA33_6 rfl) ?_
                  refine WL.op (by decide) (R.load Tryd.underlying31 rfl rfl (cell_at hB13 rfl)) ?_
                  refine WL.op (by decide) (R.move rfl) ?_
                  refine WL.op (by decide) (FA70_0 rfl) ?_
                  refine WL.op (by decide) (R.loadLoA (by assumption) rfl hB15) ?_
                  refine WL.op (by decide) (R.build (parts := [(0, _), (1, _), (2, _), (3, _)]) (vals := [(0, _), (1, _), (2, _), (3, _)]) rfl (fun w => build57_0123 [99, 111, 114, 112] _ 30 hs16 w)) ?_
                  refine WL.eff rfl (OP.buildSliceR (by decide) rfl hs16 ?_)
                  intro w25 hc_w25 hs_w25 hN
                  have hB11 := hc_w25.at hB11 (fun e => e)
                  have hB13 := hc_w25.at hB13 (fun e => e)
                  have hB15 := hc_w25.at hB15 (fun e => e)
                  have hC := hC.trans hc_w25
                  have hK14 := hK14.trans hc_w25
                  have hK := hK.trans hc_w25
                  have hY := hY.trans hc_w25
                  have hz_w25 := hc_w25.size
                  refine WL.eff rfl (OP.appendR (by decide) rfl rfl (hRB.kept hK (fun _ _ e => e)) hs16 hN (by omega) (by omega) ?_)
                  intro v2 w26 hRn hMv
                  have hc_w26 : Chg (fun k => base ≤ k) w25 w26 := (Chg.moved hMv).mono (fun k _ e => (hRB.lt k e.symm).1)
                  clear hMv
                  obtain ⟨A1, c1, rfl, _⟩ := hRn.sl.form
                  have hRB := hRn
                  clear hRn
                  have hB11 := hc_w26.at hB11 (fun e => by omega)
                  have hB13 := hc_w26.at hB13 (fun e => by omega)
                  have hC := hC.then hc_w26 (fun _ _ e => by omega)
                  have hK14 := hK14.then hc_w26 (fun _ _ e => by omega)
                  have hz_w26 := hc_w26.size
                  refine WL.op (by decide) (FA33_6 rfl) ?_
                  refine WL.eff rfl (OP.storeAns (rs := ansL [99, 111, 114, 112] M.qtype (l.take j) ++ [recL [99, 111, 114, 112] M.qtype s]) rfl rfl hB13 ?_)
                  intro w27 hc_w27 hs_w27 hB13
                  have hB11 := hc_w27.at hB11 (fun e => by omega)
                  have hC := hC.thenB hc_w27 (by omega)
                  have hK14 := hK14.thenB hc_w27 (by omega)
                  have hRB := hRB.kept hc_w27 (fun k e1 e2 => by have := hRB.lt k e1; omega)
                  refine WL.nil ?_
                  refine EW.inNormal ?_
                  refine EW.next ?_
                  refine CW.region ?_
                  refine WL.op (by decide) (R.add rfl rfl (by omega)) ?_
                  refine WL.op (by decide) (R.move rfl) ?_
                  refine WL.nil ?_
                  exact EW.roundK [0, 7, 11, 12, 13, 69, 70, 71] (k - 1) (by omega) ⟨hC, hK14, by omega, j + 1, (j : Int) + 1, A1, c1, by omega, by omega, rfl, hB11, by rw [hN1]; exact hB13, by rw [hN1]; exact hRB⟩
            · skip
              refine WL.next ?_
              refine CW.seq ?_
              refine CW.condF rfl ?_
              refine CW.exit ?_
              have hT : l.take j = l := List.take_of_length_le (by omega)
              rw [hT] at hB13 hRB
              have hRBs := hRB.sl
              refine EW.thenExit ?_
              refine EW.thenExit ?_
              refine EW.inHere ?_
              refine EW.next ?_
              refine CW.rseq ?_
              refine WL.op (by decide) (R.move rfl) ?_
              refine WL.op (by decide) (R.eql rfl rfl (decide_eq_true (rfl))) ?_
              refine WL.op (by decide) (R.move rfl) ?_
              refine WL.gop (by decide) rfl rfl rfl (R.loadM rfl hB11) ?_
              refine WL.gop (by decide) rfl rfl rfl (R.loadM rfl hB13) ?_
              refine WL.geff rfl rfl rfl (OP.call (by decide) Tryd.func25 (by kernel_rfl) (by kernel_rfl) rfl (same_any _ _ _ _ _ ⟨_, _, rfl, (hvaD.keep0 hK14), (hvbD.keep0 hK14)⟩ ⟨_, _, rfl, (hRBs.keep0 hK), (RSl.nil _)⟩ hlenD.1 hlenD.2) ?_)
              rintro ed w28 ⟨rfl, hc_w28⟩
              rw [sameM_self]
              refine ⟨_, rfl, ?_⟩
              have hB11 := hc_w28.at hB11 (fun e => e)
              have hB13 := hc_w28.at hB13 (fun e => e)
              have hC := hC.trans hc_w28
              have hK14 := hK14.trans hc_w28
              have hK := hK.trans hc_w28
              have hz_w28 := hc_w28.size
              refine WL.op (by decide) (R.pickT rfl rfl) ?_
              refine WL.op (by decide) (R.assign rfl) ?_
              refine WL.next ?_
              refine CW.ret ?_
              exact EW.ret1 (.inl rfl) rfl rfl ⟨rfl, hC⟩
    · skip
      refine (OP.allocM (by decide) ?_)
      intro w29 hc_w29 hs_w29 hB8
      obtain ⟨b8, he_b8⟩ : ∃ b, b = w4.heap.size := ⟨_, rfl⟩
      rw [← he_b8] at hB8 ⊢
      have hB4 := hc_w29.at hB4 (fun e => e)
      have hC := hC.trans hc_w29
      have hz_w29 := hc_w29.size
      refine ⟨hB4.trans hB4_d.symm, ?_⟩
      refine AH.eff 6 (by kernel_rfl) rfl rfl (OP.call (by decide) Tryd.func33 (by kernel_rfl) (by kernel_rfl) rfl (name_any _ _) ?_)
      rintro ed w30 ⟨rfl, hc_w30⟩
      refine ⟨_, rfl, ?_⟩
      have hB4 := hc_w30.at hB4 (fun e => e)
      have hB8 := hc_w30.at hB8 (fun e => e)
      have hC := hC.trans hc_w30
      have hz_w30 := hc_w30.size
      refine ⟨hB4.trans hB4_d.symm, ?_⟩
      refine AH.take 8 rfl (by kernel_rfl) (by kernel_rfl) (by kernel_rfl) (fun _ _ _ _ h => h) (hB4.trans hB4_d.symm) (by decide) (fun w hS => R.build (parts := [(0, _), (1, _)]) (vals := [(0, _), (1, _)]) rfl (fun w => build25_2 (nameN n0) _ w)) ?_
      refine AH.take 9 rfl (by kernel_rfl) (by kernel_rfl) (by kernel_rfl) (fun _ _ _ _ h => h) (hB4.trans hB4_d.symm) (by decide) (fun w hS => R.build (parts := [(0, _), (1, _), (5, _)]) (vals := [(0, _), (1, _), (5, _)]) rfl (fun w => build33_rq _ _ _ _ w)) ?_
      refine AH.eff 11 (by kernel_rfl) rfl rfl (OP.storeM rfl rfl hB8 ?_)
      intro w31 hc_w31 hs_w31 hB8
      have hB4 := hc_w31.at hB4 (fun e => by omega)
      have hC := hC.thenB hc_w31 (by omega)
      refine ⟨hB4.trans hB4_d.symm, ?_⟩
      refine AH.done (by kernel_rfl) ?_
      refine EW.next ?_
      refine CW.rseq ?_
      obtain ⟨M, hM⟩ : ∃ M, M = (⟨n1 % ((2 ^ 16 : Nat) : Int), reply, false, false, 0, nameN n0, kindN n2, [], []⟩ : Msg) := ⟨_, rfl⟩
      have hbM : MBack M := by rw [hM]; exact MBack.quest (by omega) (kindN_in n2) (nameN_ok n0).1 (nameN_ok n0).2.1
      have hMq : M.qtype = kindN n2 := by rw [hM]
      rw [← hM] at hB8
      rw [← hMq]
      refine WL.op (by decide) (R.move rfl) ?_
      refine WL.op (by decide) (R.loadM rfl hB8) ?_
      refine WL.eff rfl (OP.call (by decide) Tryd.func24 (by kernel_rfl) (by kernel_rfl) rfl (encode_src _ _ _ ⟨_, _, rfl, (by rw [hM]; exact RSl.nil _), (by rw [hM]; exact RSl.nil _)⟩ (hbM)) ?_)
      rintro ed w32 ⟨gE, ceE, bsE, rfl, hbsE, hBufE, hSrcE, hmoreE, hdecE, hblE, hgeE, hglE, hc_w32⟩
      refine ⟨_, rfl, ?_⟩
      have hB4 := hc_w32.at hB4 (fun e => e)
      have hB8 := hc_w32.at hB8 (fun e => e)
      have hC := hC.trans hc_w32
      have hz_w32 := hc_w32.size
      have hK32 : Chg (fun _ => False) w32 w32 := Chg.refl _ _
      refine WL.eff rfl (OP.call (by decide) Tryd.func34 (by kernel_rfl) (by kernel_rfl) rfl (answer_any [99, 111, 114, 112] _ _ _ l _ _ _ _ _ _ (hL.keep0 hC) h16 (by omega) (hSrcE.keep0 hK32) (by rintro _ _ ⟨⟩; omega) hblE hdecE hbM (hG.keep0 hC)) ?_)
      rintro ed w33 ⟨hc_w33, hres⟩
      have hB4 := hc_w33.at hB4 (fun e => e)
      have hB8 := hc_w33.at hB8 (fun e => e)
      have hC := hC.trans hc_w33
      have hK32 := hK32.trans hc_w33
      have hz_w33 := hc_w33.size
      cases hans : answers [99, 111, 114, 112] M
      · skip
        obtain rfl := hres.isNo hans
        refine ⟨_, rfl, ?_⟩
        refine WL.op (by decide) (R.move rfl) ?_
        refine WL.op (by decide) (R.extract rfl rfl) ?_
        refine WL.op (by decide) (R.extract rfl rfl) ?_
        refine WL.op (by decide) (R.assign rfl) ?_
        refine WL.op (by decide) (R.assign rfl) ?_
        refine WL.next ?_
        refine CW.seq ?_
        refine CW.rseq ?_
        have hZ : Chg (fun _ => False) w33 w33 := Chg.refl _ _
        refine WL.cut 9 (fun le w' => Chg (fun _ => False) w33 w' ∧ le = [(0, .slice A m c), (7, .int .i64 M.qtype), (8, .pointer (some ⟨b8, 0, none⟩)), (9, .slice none 0 0), (10, .bool false), (44, .bool false), (52, .bool (answers [99, 111, 114, 112] M))]) ?_ ?_
        ·
          refine WL.op (by decide) (R.move rfl) ?_
          refine WL.op (by decide) (R.move rfl) ?_
          cases hrep : reply
          · skip
            skip
            refine WL.op (by decide) (R.not rfl) ?_
            refine WL.op (by decide) (R.move rfl) ?_
            refine WL.gop (by decide) rfl rfl rfl (R.indexArr (i := 0) Tryd.underlying64 sz3 rfl rfl rfl (by decide)) ?_
            refine WL.gop (by decide) rfl rfl rfl (R.load Tryd.underlying3 rfl rfl (cell_at hB4 rfl)) ?_
            refine WL.geff rfl rfl rfl (OP.call (by decide) Tryd.func33 (by kernel_rfl) (by kernel_rfl) rfl (name_any _ _) ?_)
            rintro ed w34 ⟨rfl, hc_w34⟩
            refine ⟨_, rfl, ?_⟩
            have hB4 := hc_w34.at hB4 (fun e => e)
            have hB8 := hc_w34.at hB8 (fun e => e)
            have hC := hC.trans hc_w34
            have hK32 := hK32.trans hc_w34
            have hZ := hZ.trans hc_w34
            have hz_w34 := hc_w34.size
            refine WL.gsplit _ (by decide) rfl rfl rfl (R.eqlStr (a := nameN n0) (b := [99, 111, 114, 112]) rfl rfl) (fun h8 => ?_) (fun h8 => ?_)
            · skip
              refine WL.op (by decide) (R.pickT rfl rfl) ?_
              exact WL.cutEnd [0, 7, 8, 9, 10, 44, 52] ⟨hZ, by rw [show answers [99, 111, 114, 112] M = true from by rw [hM]; simp [answers, *]]; rfl⟩
            · skip
              refine WL.op (by decide) (R.pickT rfl rfl) ?_
              exact WL.cutEnd [0, 7, 8, 9, 10, 44, 52] ⟨hZ, by rw [show answers [99, 111, 114, 112] M = false from by rw [hM]; simp [answers, *]]; rfl⟩
          · skip
            skip
            refine WL.op (by decide) (R.not rfl) ?_
            refine WL.op (by decide) (R.move rfl) ?_
            refine WL.pass (by decide) rfl rfl rfl ?_
            refine WL.pass (by decide) rfl rfl rfl ?_
            refine WL.pass (by decide) rfl rfl rfl ?_
            refine WL.pass (by decide) rfl rfl rfl ?_
            refine WL.op (by decide) (R.pickF rfl rfl) ?_
            exact WL.cutEnd [0, 7, 8, 9, 10, 44, 52] ⟨hZ, by rw [show answers [99, 111, 114, 112] M = false from by rw [hM]; simp [answers, *]]; rfl⟩
        · rintro le wz35 ⟨hc_wz35, rfl⟩
          have hB4 := hc_wz35.at hB4 (fun e => e)
          have hB8 := hc_wz35.at hB8 (fun e => e)
          have hC := hC.trans hc_wz35
          have hK32 := hK32.trans hc_wz35
          have hZ := hZ.trans hc_wz35
          have hz_wz35 := hc_wz35.size
          refine WL.op (by decide) (R.neqB (c := false) rfl rfl (by rw [hans]; rfl)) ?_
          refine WL.next ?_
          refine CW.condF rfl ?_
          refine CW.skip ?_
          refine EW.next ?_
          refine CW.seq ?_
          refine CW.rseq ?_
          refine WL.op (by decide) (R.move rfl) ?_
          refine WL.op (by decide) (R.not rfl) ?_
          refine WL.next ?_
          refine CW.condT rfl ?_
          refine CW.rseq ?_
          refine WL.op (by decide) (R.move rfl) ?_
          refine WL.op (by decide) (R.lenSlice rfl Tryd.underlying36 rfl) ?_
          refine WL.op (by decide) (R.eql rfl rfl (decide_eq_true (rfl))) ?_
          refine WL.op (by decide) (R.assign rfl) ?_
          refine WL.next ?_
          refine CW.ret ?_
          refine EW.thenRet ?_
          exact EW.ret1 (.inl rfl) rfl rfl ⟨rfl, hC⟩
      · skip
        obtain ⟨gA, ceA, bsA, rfl, hSrcA, hmoreA, hdecA, hblA, hgeA, hglA⟩ := hres.isYes hans
        have hK35 : Chg (fun _ => False) w33 w33 := Chg.refl _ _
        refine ⟨_, rfl, ?_⟩
        refine WL.op (by decide) (R.move rfl) ?_
        refine WL.op (by decide) (R.extract rfl rfl) ?_
        refine WL.op (by decide) (R.extract rfl rfl) ?_
        refine WL.op (by decide) (R.assign rfl) ?_
        refine WL.op (by decide) (R.assign rfl) ?_
        refine WL.next ?_
        refine CW.seq ?_
        refine CW.rseq ?_
        have hZ : Chg (fun _ => False) w33 w33 := Chg.refl _ _
        refine WL.cut 9 (fun le w' => Chg (fun _ => False) w33 w' ∧ le = [(0, .slice A m c), (7, .int .i64 M.qtype), (8, .pointer (some ⟨b8, 0, none⟩)), (9, .slice (some ⟨gA, 0, none⟩) bsA.length ceA), (10, .bool true), (44, .bool true), (52, .bool (answers [99, 111, 114, 112] M))]) ?_ ?_
        ·
          refine WL.op (by decide) (R.move rfl) ?_
          refine WL.op (by decide) (R.move rfl) ?_
          cases hrep : reply
          · skip
            skip
            refine WL.op (by decide) (R.not rfl) ?_
            refine WL.op (by decide) (R.move rfl) ?_
            refine WL.gop (by decide) rfl rfl rfl (R.indexArr (i := 0) Tryd.underlying64 sz3 rfl rfl rfl (by decide)) ?_
            refine WL.gop (by decide) rfl rfl rfl (R.load Tryd.underlying3 rfl rfl (cell_at hB4 rfl)) ?_
            refine WL.geff rfl rfl rfl (OP.call (by decide) Tryd.func33 (by kernel_rfl) (by kernel_rfl) rfl (name_any _ _) ?_)
            rintro ed w36 ⟨rfl, hc_w36⟩
            refine ⟨_, rfl, ?_⟩
            have hB4 := hc_w36.at hB4 (fun e => e)
            have hB8 := hc_w36.at hB8 (fun e => e)
            have hC := hC.trans hc_w36
            have hK32 := hK32.trans hc_w36
            have hK35 := hK35.trans hc_w36
            have hZ := hZ.trans hc_w36
            have hz_w36 := hc_w36.size
            refine WL.gsplit _ (by decide) rfl rfl rfl (R.eqlStr (a := nameN n0) (b := [99, 111, 114, 112]) rfl rfl) (fun h9 => ?_) (fun h9 => ?_)
            · skip
              refine WL.op (by decide) (R.pickT rfl rfl) ?_
              exact WL.cutEnd [0, 7, 8, 9, 10, 44, 52] ⟨hZ, by rw [show answers [99, 111, 114, 112] M = true from by rw [hM]; simp [answers, *]]; rfl⟩
            · skip
              refine WL.op (by decide) (R.pickT rfl rfl) ?_
              exact WL.cutEnd [0, 7, 8, 9, 10, 44, 52] ⟨hZ, by rw [show answers [99, 111, 114, 112] M = false from by rw [hM]; simp [answers, *]]; rfl⟩
          · skip
            skip
            refine WL.op (by decide) (R.not rfl) ?_
            refine WL.op (by decide) (R.move rfl) ?_
            refine WL.pass (by decide) rfl rfl rfl ?_
            refine WL.pass (by decide) rfl rfl rfl ?_
            refine WL.pass (by decide) rfl rfl rfl ?_
            refine WL.pass (by decide) rfl rfl rfl ?_
            refine WL.op (by decide) (R.pickF rfl rfl) ?_
            exact WL.cutEnd [0, 7, 8, 9, 10, 44, 52] ⟨hZ, by rw [show answers [99, 111, 114, 112] M = false from by rw [hM]; simp [answers, *]]; rfl⟩
        · rintro le wz37 ⟨hc_wz37, rfl⟩
          have hB4 := hc_wz37.at hB4 (fun e => e)
          have hB8 := hc_wz37.at hB8 (fun e => e)
          have hC := hC.trans hc_wz37
          have hK32 := hK32.trans hc_wz37
          have hK35 := hK35.trans hc_wz37
          have hZ := hZ.trans hc_wz37
          have hz_wz37 := hc_wz37.size
          refine WL.op (by decide) (R.neqB (c := false) rfl rfl (by rw [hans]; rfl)) ?_
          refine WL.next ?_
          refine CW.condF rfl ?_
          refine CW.skip ?_
          refine EW.next ?_
          refine CW.seq ?_
          refine CW.rseq ?_
          refine WL.op (by decide) (R.move rfl) ?_
          refine WL.op (by decide) (R.not rfl) ?_
          refine WL.next ?_
          refine CW.condF rfl ?_
          refine CW.skip ?_
          refine EW.next ?_
          refine CW.rseq ?_
          refine WL.op (by decide) (R.move rfl) ?_
          refine WL.eff rfl (OP.call (by decide) Tryd.func27 (by kernel_rfl) (by kernel_rfl) rfl (decode_any _ _ _ _ _ (hSrcA.keep0 hK35) (by rintro _ _ ⟨⟩; omega) (by omega) (hG.keep0 hC)) ?_)
          rintro ed w38 ⟨hc_w38, hres⟩
          rw [hdecA] at hres
          obtain ⟨vD, rfl, vaD, vbD, rfl, hvaD, hvbD, hoaD, hobD⟩ := hres
          obtain ⟨AaD, caD, rfl, _⟩ := hvaD.form
          obtain ⟨AbD, cbD, rfl, _⟩ := hvbD.form
          have hlenD := len_dec hdecA
          refine ⟨_, rfl, ?_⟩
          have hB4 := hc_w38.at hB4 (fun e => e)
          have hB8 := hc_w38.at hB8 (fun e => e)
          have hC := hC.trans hc_w38
          have hK32 := hK32.trans hc_w38
          have hK35 := hK35.trans hc_w38
          have hZ := hZ.trans hc_w38
          have hz_w38 := hc_w38.size
          have hK38 : Chg (fun _ => False) w38 w38 := Chg.refl _ _
          refine WL.op (by decide) (R.move rfl) ?_
          refine WL.op (by decide) (R.extract rfl rfl) ?_
          refine WL.op (by decide) (R.extract rfl rfl) ?_
          refine WL.eff rfl (OP.allocM (by decide) ?_)
          intro w39 hc_w39 hs_w39 hB11
          obtain ⟨b11, he_b11⟩ : ∃ b, b = w38.heap.size := ⟨_, rfl⟩
          rw [← he_b11] at hB11 ⊢
          have hB4 := hc_w39.at hB4 (fun e => e)
          have hB8 := hc_w39.at hB8 (fun e => e)
          have hC := hC.trans hc_w39
          have hK32 := hK32.trans hc_w39
          have hK35 := hK35.trans hc_w39
          have hZ := hZ.trans hc_w39
          have hK38 := hK38.trans hc_w39
          have hz_w39 := hc_w39.size
          refine WL.eff rfl (OP.storeM rfl rfl hB11 ?_)
          intro w40 hc_w40 hs_w40 hB11
          have hB4 := hc_w40.at hB4 (fun e => by omega)
          have hB8 := hc_w40.at hB8 (fun e => by omega)
          have hC := hC.thenB hc_w40 (by omega)
          have hK32 := hK32.thenB hc_w40 (by omega)
          have hK35 := hK35.thenB hc_w40 (by omega)
          have hZ := hZ.thenB hc_w40 (by omega)
          have hK38 := hK38.thenB hc_w40 (by omega)
          refine WL.op (by decide) (R.assign rfl) ?_
          refine WL.next ?_
          refine CW.rseq ?_
          refine WL.op (by decide) (FA33_0 rfl) ?_
          refine WL.op (by decide) (R.load Tryd.underlying3 rfl rfl (cell_at hB8 rfl)) ?_
          refine WL.op (by decide) (FA33_5 rfl) ?_
          refine WL.op (by decide) (R.loadQ rfl hB8) ?_
          refine WL.op (by decide) (R.build (parts := [(0, _), (1, _), (5, _)]) (vals := [(0, _), (1, _), (5, _)]) rfl (fun w => build33_rq _ true _ _ w)) ?_
          refine WL.eff rfl (OP.allocM (by decide) ?_)
          intro w41 hc_w41 hs_w41 hB13
          obtain ⟨b13, he_b13⟩ : ∃ b, b = w40.heap.size := ⟨_, rfl⟩
          rw [← he_b13] at hB13 ⊢
          have hB4 := hc_w41.at hB4 (fun e => e)
          have hB8 := hc_w41.at hB8 (fun e => e)
          have hB11 := hc_w41.at hB11 (fun e => e)
          have hC := hC.trans hc_w41
          have hK32 := hK32.trans hc_w41
          have hK35 := hK35.trans hc_w41
          have hZ := hZ.trans hc_w41
          have hK38 := hK38.trans hc_w41
          have hz_w41 := hc_w41.size
          refine WL.eff rfl (OP.storeM rfl rfl hB13 ?_)
          intro w42 hc_w42 hs_w42 hB13
          have hB4 := hc_w42.at hB4 (fun e => by omega)
          have hB8 := hc_w42.at hB8 (fun e => by omega)
          have hB11 := hc_w42.at hB11 (fun e => by omega)
          have hC := hC.thenB hc_w42 (by omega)
          have hK32 := hK32.thenB hc_w42 (by omega)
          have hK35 := hK35.thenB hc_w42 (by omega)
          have hZ := hZ.thenB hc_w42 (by omega)
          have hK38 := hK38.thenB hc_w42 (by omega)
          refine WL.next ?_
          refine CW.seq ?_
          refine CW.rseq ?_
          obtain ⟨base, he_base⟩ : ∃ b, b = w42.heap.size := ⟨_, rfl⟩
          refine WL.op (by decide) (R.move rfl) ?_
          refine WL.op (by decide) (R.lenSlice rfl Tryd.underlying63 rfl) ?_
          refine WL.op (by decide) (R.move rfl) ?_
          refine WL.next ?_
          refine CW.block ?_
          refine CW.loopK [0, 7, 11, 12, 13, 69, 70, 71] (fun k le wr => Chg (fun _ => False) w0 wr ∧ Chg (fun _ => False) w38 wr ∧ base ≤ wr.heap.size ∧ ∃ (j : Nat) (jj : Int) (A1 : Option Addr) (c1 : Nat), j + k = l.length ∧ jj = (j : Int) ∧ le = [(0, .slice A m c), (7, .int .i64 M.qtype), (11, .pointer (some ⟨b11, 0, none⟩)), (12, .int .i64 0), (13, .pointer (some ⟨b13, 0, none⟩)), (69, .slice A m c), (70, .int .i64 m), (71, .int .i64 jj)] ∧ BM wr b11 (ansM [99, 111, 114, 112] M l) (.slice AaD (ansM [99, 111, 114, 112] M l).ans.length caD) (.slice AbD (ansM [99, 111, 114, 112] M l).auth.length cbD) ∧ BM wr b13 (ansM [99, 111, 114, 112] M (l.take j)) (.slice A1 (ansL [99, 111, 114, 112] M.qtype (l.take j)).length c1) (.slice none 0 0) ∧ RBuf wr base (.slice A1 (ansL [99, 111, 114, 112] M.qtype (l.take j)).length c1) (ansL [99, 111, 114, 112] M.qtype (l.take j))) (l.length) ?_ ?_
          · exact ⟨hC, hK38, by omega, 0, 0, none, 0, by omega, rfl, rfl, hB11, hB13, RBuf.nil _ _⟩
          · rintro k le wr ⟨hC, hK38, hbw, j, jj, A1, c1, hk, rfl, rfl, hB11, hB13, hRB⟩
            have hK : Chg (fun _ => False) wr wr := Chg.refl _ _
            have hll := ansL_len2 [99, 111, 114, 112] M.qtype l j
            have hz_hC := hC.size
            have hz_hK38 := hK38.size
            have hz_hK := hK.size
            refine CW.rseq ?_
            refine WL.lssS (by decide) rfl rfl (fun h10 => ?_) (fun h10 => ?_)
            · skip
              refine WL.next ?_
              refine CW.seq ?_
              refine CW.condT rfl ?_
              refine CW.skip ?_
              refine EW.next ?_
              refine CW.seq ?_
              refine CW.block ?_
              refine CW.rseq ?_
              obtain ⟨s, hs⟩ : ∃ s, l[j]? = some s := ⟨l[j]'(by omega), List.getElem?_eq_getElem _⟩
              obtain ⟨hlm2, g, o, hA, hcell⟩ := (hL.kept hC).at hs
              subst hA
              have hs16 := h16 s (List.mem_of_getElem? hs)
              refine WL.op (by decide) (R.indexAddr1 (i := j) Tryd.underlying63 sz70 rfl rfl (by omega) (by omega)) ?_
              refine WL.op (by decide) (R.loadLoAt hs16 rfl hcell) ?_
              refine WL.eff rfl (OP.allocLo (by decide) ?_)
              intro w43 hc_w43 hs_w43 hB15
              obtain ⟨b15, he_b15⟩ : ∃ b, b = wr.heap.size := ⟨_, rfl⟩
              rw [← he_b15] at hB15 ⊢
              have hB11 := hc_w43.at hB11 (fun e => e)
              have hB13 := hc_w43.at hB13 (fun e => e)
              have hC := hC.trans hc_w43
              have hK38 := hK38.trans hc_w43
              have hK := hK.trans hc_w43
              have hz_w43 := hc_w43.size
              refine WL.eff rfl (OP.storeLo (by assumption) (by first | rfl | assumption) rfl rfl hB15 ?_)
              intro w44 hc_w44 hs_w44 hB15
              have hB11 := hc_w44.at hB11 (fun e => by omega)
              have hB13 := hc_w44.at hB13 (fun e => by omega)
              have hC := hC.thenB hc_w44 (by omega)
              have hK38 := hK38.thenB hc_w44 (by omega)
              have hK := hK.thenB hc_w44 (by omega)
              refine WL.next ?_
              refine CW.rseq ?_
              have hY : Chg (fun _ => False) w44 w44 := Chg.refl _ _
              refine WL.cut 17 (fun le w' => Chg (fun _ => False) w44 w' ∧ le = [(0, .slice (some ⟨g, o, none⟩) m c), (7, .int .i64 M.qtype), (11, .pointer (some ⟨b11, 0, none⟩)), (12, .int .i64 0), (13, .pointer (some ⟨b13, 0, none⟩)), (15, .pointer (some ⟨b15, 0, none⟩)), (69, .slice (some ⟨g, o, none⟩) m c), (70, .int .i64 m), (71, .int .i64 (j : Int)), (91, .bool (fits M.qtype s))]) ?_ ?_
              ·
                refine WL.op (by decide) (R.move rfl) ?_
                refine WL.eqlS (by decide) rfl rfl (fun h11 => ?_) (fun h11 => ?_)
                · skip
                  refine WL.op (by decide) (R.move rfl) ?_
                  refine WL.gop (by decide) rfl rfl rfl (FA70_0 rfl) ?_
                  refine WL.gop (by decide) rfl rfl rfl (R.loadLoA (by assumption) rfl hB15) ?_
                  refine WL.geff rfl rfl rfl (OP.call (by decide) Tryd.func35 (by kernel_rfl) (by kernel_rfl) rfl (is4_any _ _ (by assumption)) ?_)
                  rintro ed w45 ⟨rfl, hc_w45⟩
                  have hB11 := hc_w45.at hB11 (fun e => e)
                  have hB13 := hc_w45.at hB13 (fun e => e)
                  have hB15 := hc_w45.at hB15 (fun e => e)
                  have hC := hC.trans hc_w45
                  have hK38 := hK38.trans hc_w45
                  have hK := hK.trans hc_w45
                  have hY := hY.trans hc_w45
                  have hz_w45 := hc_w45.size
                  cases h4 : is4 s.addr
                  · skip
                    refine ⟨_, rfl, ?_⟩
                    refine WL.op (by decide) (R.pickT rfl rfl) ?_
                    refine WL.op (by decide) (R.move rfl) ?_
                    refine WL.gop (by decide) rfl rfl rfl (R.move rfl) ?_
                    refine WL.gsplit _ (by decide) rfl rfl rfl (R.eqlD rfl rfl) (fun h12 => ?_) (fun h12 => ?_)
                    · skip
                      refine WL.gop (by decide) rfl rfl rfl (R.move rfl) ?_
                      refine WL.gop (by decide) rfl rfl rfl (FA70_0 rfl) ?_
                      refine WL.gop (by decide) rfl rfl rfl (R.loadLoA (by assumption) rfl hB15) ?_
                      refine WL.geff rfl rfl rfl (OP.call (by decide) Tryd.func35 (by kernel_rfl) (by kernel_rfl) rfl (is4_any _ _ (by assumption)) ?_)
                      rintro ed w46 ⟨rfl, hc_w46⟩
                      have hB11 := hc_w46.at hB11 (fun e => e)
                      have hB13 := hc_w46.at hB13 (fun e => e)
                      have hB15 := hc_w46.at hB15 (fun e => e)
                      have hC := hC.trans hc_w46
                      have hK38 := hK38.trans hc_w46
                      have hK := hK.trans hc_w46
                      have hY := hY.trans hc_w46
                      have hz_w46 := hc_w46.size
                      cases h4b : is4 s.addr
                      · skip
                        refine ⟨_, rfl, ?_⟩
                        refine WL.gop (by decide) rfl rfl rfl (R.not rfl) ?_
                        refine WL.gop (by decide) rfl rfl rfl (R.pickT rfl rfl) ?_
                        refine WL.op (by decide) (R.pickF rfl rfl) ?_
                        exact WL.cutEnd [0, 7, 11, 12, 13, 15, 69, 70, 71, 91] ⟨hY, by rw [show fits M.qtype s = true from by simp_all]; rfl⟩
                      · skip
                        refine ⟨_, rfl, ?_⟩
                        refine WL.gop (by decide) rfl rfl rfl (R.not rfl) ?_
                        refine WL.gop (by decide) rfl rfl rfl (R.pickT rfl rfl) ?_
                        refine WL.op (by decide) (R.pickF rfl rfl) ?_
                        exact WL.cutEnd [0, 7, 11, 12, 13, 15, 69, 70, 71, 91] ⟨hY, by rw [show fits M.qtype s = false from by simp_all]; rfl⟩
                    · skip
                      refine WL.gop (by decide) rfl rfl rfl (R.move rfl) ?_
                      refine WL.pass (by decide) rfl rfl rfl ?_
                      refine WL.pass (by decide) rfl rfl rfl ?_
                      refine WL.pass (by decide) rfl rfl rfl ?_
                      refine WL.pass (by decide) rfl rfl rfl ?_
                      refine WL.gop (by decide) rfl rfl rfl (R.pickF rfl rfl) ?_
                      refine WL.op (by decide) (R.pickF rfl rfl) ?_
                      exact WL.cutEnd [0, 7, 11, 12, 13, 15, 69, 70, 71, 91] ⟨hY, by rw [show fits M.qtype s = false from by simp_all [fits]]; rfl⟩
                  · skip
                    refine ⟨_, rfl, ?_⟩
                    refine WL.op (by decide) (R.pickT rfl rfl) ?_
                    refine WL.op (by decide) (R.move rfl) ?_
                    refine WL.pass (by decide) rfl rfl rfl ?_
                    refine WL.pass (by decide) rfl rfl rfl ?_
                    refine WL.pass (by decide) rfl rfl rfl ?_
                    refine WL.passU (by decide) rfl rfl ?_
                    refine WL.passU (by decide) rfl rfl ?_
                    refine WL.passU (by decide) rfl rfl ?_
                    refine WL.passU (by decide) rfl rfl ?_
                    refine WL.pass (by decide) rfl rfl rfl ?_
                    refine WL.op (by decide) (R.pickT rfl rfl) ?_
                    exact WL.cutEnd [0, 7, 11, 12, 13, 15, 69, 70, 71, 91] ⟨hY, by rw [show fits M.qtype s = true from by simp_all [fits]]; rfl⟩
                · skip
                  refine WL.op (by decide) (R.move rfl) ?_
                  refine WL.pass (by decide) rfl rfl rfl ?_
                  refine WL.pass (by decide) rfl rfl rfl ?_
                  refine WL.pass (by decide) rfl rfl rfl ?_
                  refine WL.op (by decide) (R.pickF rfl rfl) ?_
                  refine WL.op (by decide) (R.move rfl) ?_
                  refine WL.gop (by decide) rfl rfl rfl (R.move rfl) ?_
                  refine WL.gsplit _ (by decide) rfl rfl rfl (R.eqlD rfl rfl) (fun h13 => ?_) (fun h13 => ?_)
                  · skip
                    refine WL.gop (by decide) rfl rfl rfl (R.move rfl) ?_
                    refine WL.gop (by decide) rfl rfl rfl (FA70_0 rfl) ?_
                    refine WL.gop (by decide) rfl rfl rfl (R.loadLoA (by assumption) rfl hB15) ?_
                    refine WL.geff rfl rfl rfl (OP.call (by decide) Tryd.func35 (by kernel_rfl) (by kernel_rfl) rfl (is4_any _ _ (by assumption)) ?_)
                    rintro ed w47 ⟨rfl, hc_w47⟩
                    have hB11 := hc_w47.at hB11 (fun e => e)
                    have hB13 := hc_w47.at hB13 (fun e => e)
                    have hB15 := hc_w47.at hB15 (fun e => e)
                    have hC := hC.trans hc_w47
                    have hK38 := hK38.trans hc_w47
                    have hK := hK.trans hc_w47
                    have hY := hY.trans hc_w47
                    have hz_w47 := hc_w47.size
                    cases h4b : is4 s.addr
                    · skip
                      refine ⟨_, rfl, ?_⟩
                      refine WL.gop (by decide) rfl rfl rfl (R.not rfl) ?_
                      refine WL.gop (by decide) rfl rfl rfl (R.pickT rfl rfl) ?_
                      refine WL.op (by decide) (R.pickF rfl rfl) ?_
                      exact WL.cutEnd [0, 7, 11, 12, 13, 15, 69, 70, 71, 91] ⟨hY, by rw [show fits M.qtype s = true from by simp_all [fits]]; rfl⟩
                    · skip
                      refine ⟨_, rfl, ?_⟩
                      refine WL.gop (by decide) rfl rfl rfl (R.not rfl) ?_
                      refine WL.gop (by decide) rfl rfl rfl (R.pickT rfl rfl) ?_
                      refine WL.op (by decide) (R.pickF rfl rfl) ?_
                      exact WL.cutEnd [0, 7, 11, 12, 13, 15, 69, 70, 71, 91] ⟨hY, by rw [show fits M.qtype s = false from by simp_all [fits]]; rfl⟩
                  · skip
                    refine WL.gop (by decide) rfl rfl rfl (R.move rfl) ?_
                    refine WL.pass (by decide) rfl rfl rfl ?_
                    refine WL.pass (by decide) rfl rfl rfl ?_
                    refine WL.pass (by decide) rfl rfl rfl ?_
                    refine WL.pass (by decide) rfl rfl rfl ?_
                    refine WL.gop (by decide) rfl rfl rfl (R.pickF rfl rfl) ?_
                    refine WL.op (by decide) (R.pickF rfl rfl) ?_
                    exact WL.cutEnd [0, 7, 11, 12, 13, 15, 69, 70, 71, 91] ⟨hY, by rw [show fits M.qtype s = false from by simp_all [fits]]; rfl⟩
              · rintro le wz48 ⟨hc_wz48, rfl⟩
                have hB11 := hc_wz48.at hB11 (fun e => e)
                have hB13 := hc_wz48.at hB13 (fun e => e)
                have hB15 := hc_wz48.at hB15 (fun e => e)
                have hC := hC.trans hc_wz48
                have hK38 := hK38.trans hc_wz48
                have hK := hK.trans hc_wz48
                have hY := hY.trans hc_wz48
                have hz_wz48 := hc_wz48.size
                cases hfit : fits M.qtype s
                · skip
                  have hN1 := ansL_same (own := [99, 111, 114, 112]) hs hfit
                  refine WL.next ?_
                  refine CW.condF rfl ?_
                  refine CW.skip ?_
                  refine EW.inNormal ?_
                  refine EW.next ?_
                  refine CW.region ?_
                  refine WL.op (by decide) (R.add rfl rfl (by omega)) ?_
                  refine WL.op (by decide) (R.move rfl) ?_
                  refine WL.nil ?_
                  exact EW.roundK [0, 7, 11, 12, 13, 69, 70, 71] (k - 1) (by omega) ⟨hC, hK38, by omega, j + 1, (j : Int) + 1, A1, c1, by omega, by omega, rfl, hB11, by rw [hN1]; exact hB13, by rw [hN1]; exact hRB.kept hK (fun _ _ e => e)⟩
                · skip
                  have hN1 := ansL_snoc (own := [99, 111, 114, 112]) hs hfit
                  refine WL.next ?_
                  refine CW.condT rfl ?_
                  refine CW.region ?_
                  refine WL.op (by decide) (FA33_6 rfl) ?_
                  refine WL.op (by decide) (R.load Tryd.underlying31 rfl rfl (cell_at hB13 rfl)) ?_
                  refine WL.op (by decide) (R.move rfl) ?_
                  refine WL.op (by decide) (FA70_0 rfl) ?_
                  refine WL.op (by decide) (R.loadLoA (by assumption) rfl hB15) ?_
                  refine WL.op (by decide) (R.build (parts := [(0, _), (1, _), (2, _), (3, _)]) (vals := [(0, _), (1, _), (2, _), (3, _)]) rfl (fun w => build57_0123 [99, 111, 114, 112] _ 30 hs16 w)) ?_
                  refine WL.eff rfl (OP.buildSliceR (by decide) rfl hs16 ?_)
                  intro w49 hc_w49 hs_w49 hN
                  have hB11 := hc_w49.at hB11 (fun e => e)
                  have hB13 := hc_w49.at hB13 (fun e => e)
                  have hB15 := hc_w49.at hB15 (fun e => e)
                  have hC := hC.trans hc_w49
                  have hK38 := hK38.trans hc_w49
                  have hK := hK.trans hc_w49
                  have hY := hY.trans hc_w49
                  have hz_w49 := hc_w49.size
                  refine WL.eff rfl (OP.appendR (by decide) rfl rfl (hRB.kept hK (fun _ _ e => e)) hs16 hN (by omega) (by omega) ?_)
                  intro v2 w50 hRn hMv
                  have hc_w50 : Chg (fun k => base ≤ k) w49 w50 := (Chg.moved hMv).mono (fun k _ e => (hRB.lt k e.symm).1)
                  clear hMv
                  obtain ⟨A1, c1, rfl, _⟩ := hRn.sl.form
                  have hRB := hRn
                  clear hRn
                  have hB11 := hc_w50.at hB11 (fun e => by omega)
                  have hB13 := hc_w50.at hB13 (fun e => by omega)
                  have hC := hC.then hc_w50 (fun _ _ e => by omega)
                  have hK38 := hK38.then hc_w50 (fun _ _ e => by omega)
                  have hz_w50 := hc_w50.size
                  refine WL.op (by decide) (FA33_6 rfl) ?_
                  refine WL.eff rfl (OP.storeAns (rs := ansL [99, 111, 114, 112] M.qtype (l.take j) ++ [recL [99, 111, 114, 112] M.qtype s]) rfl rfl hB13 ?_)
                  intro w51 hc_w51 hs_w51 hB13
                  have hB11 := hc_w51.at hB11 (fun e => by omega)
                  have hC := hC.thenB hc_w51 (by omega)
                  have hK38 := hK38.thenB hc_w51 (by omega)
                  have hRB := hRB.kept hc_w51 (fun k e1 e2 => by have := hRB.lt k e1; omega)
                  refine WL.nil ?_
                  refine EW.inNormal ?_
                  refine EW.next ?_
                  refine CW.region ?_
                  refine WL.op (by decide) (R.add rfl rfl (by omega)) ?_
                  refine WL.op (by decide) (R.move rfl) ?_
                  refine WL.nil ?_
                  exact EW.roundK [0, 7, 11, 12, 13, 69, 70, 71] (k - 1) (by omega) ⟨hC, hK38, by omega, j + 1, (j : Int) + 1, A1, c1, by omega, by omega, rfl, hB11, by rw [hN1]; exact hB13, by rw [hN1]; exact hRB⟩
            · skip
              refine WL.next ?_
              refine CW.seq ?_
              refine CW.condF rfl ?_
              refine CW.exit ?_
              have hT : l.take j = l := List.take_of_length_le (by omega)
              rw [hT] at hB13 hRB
              have hRBs := hRB.sl
              refine EW.thenExit ?_
              refine EW.thenExit ?_
              refine EW.inHere ?_
              refine EW.next ?_
              refine CW.rseq ?_
              refine WL.op (by decide) (R.move rfl) ?_
              refine WL.op (by decide) (R.eql rfl rfl (decide_eq_true (rfl))) ?_
              refine WL.op (by decide) (R.move rfl) ?_
              refine WL.gop (by decide) rfl rfl rfl (R.loadM rfl hB11) ?_
              refine WL.gop (by decide) rfl rfl rfl (R.loadM rfl hB13) ?_
              refine WL.geff rfl rfl rfl (OP.call (by decide) Tryd.func25 (by kernel_rfl) (by kernel_rfl) rfl (same_any _ _ _ _ _ ⟨_, _, rfl, (hvaD.keep0 hK38), (hvbD.keep0 hK38)⟩ ⟨_, _, rfl, (hRBs.keep0 hK), (RSl.nil _)⟩ hlenD.1 hlenD.2) ?_)
              rintro ed w52 ⟨rfl, hc_w52⟩
              rw [sameM_self]
              refine ⟨_, rfl, ?_⟩
              have hB11 := hc_w52.at hB11 (fun e => e)
              have hB13 := hc_w52.at hB13 (fun e => e)
              have hC := hC.trans hc_w52
              have hK38 := hK38.trans hc_w52
              have hK := hK.trans hc_w52
              have hz_w52 := hc_w52.size
              refine WL.op (by decide) (R.pickT rfl rfl) ?_
              refine WL.op (by decide) (R.assign rfl) ?_
              refine WL.next ?_
              refine CW.ret ?_
              exact EW.ret1 (.inl rfl) rfl rfl ⟨rfl, hC⟩
end Go.Proofs.YthcpjcgjmdfpjaaDoor

namespace Go.Proofs.YthcpjcgjmdfpjaaDoor
open Go Go.ChangeShapes Go.WideShapes Go.ChangeAt Go.RowKit
set_option maxRecDepth 100000

theorem llmnrAnswers_lifted (os : Os) (started : os.Started) (H : Type) (enc : TypeId × Value → H) :
    ReturnsInHanded {} Tryd.checked os 11 .any (fun w args => (Rows.llmnrAnswersSpec.pre enc Tryd.prog Tryd.f11 [] false w args ∧ laidMetH Tryd.prog laidL w) ∧ sizedMet enc Tryd.prog Tryd.f11 (OpenSpec.ofChange Rows.llmnrAnswersSpec) false w args)
      (Rows.llmnrAnswersSpec.post enc Tryd.prog Tryd.f11 false true false false) := by
  refine law_lifted (s := Rows.llmnrAnswersSpec) started Tryd.func11 (by kernel_rfl) rfl (by kernel_rfl) (by kernel_rfl) ?_ ?_
    (ChangeSpec.witness_shaped (enc := enc) (C := Tryd.checked) (os := os) (X := fun w _ => laidMetH Tryd.prog laidL w) false (World.laidAll Tryd.prog os laidL) #[.slice none 0 0, .agg #[.int .i64 0, .int .i64 0, .int .i64 0], .bool false] 8 (World.laidAll_os _ _ _)
      (World.shaped_of_ZipB (by kernel_rfl) (by kernel_rfl)) (by kernel_rfl) (by kernel_rfl) (by kernel_rfl)
      (by rw [MakeChecks.laidMetH_plain _ _ _ (by kernel_rfl)]; exact laidMet_laidAll _ (by kernel_rfl) (by kernel_rfl))) ?_
  · intro ds hl
    rw [show Tryd.f11.params.size = 3 by rw [Tryd.params11]; rfl] at hl
    obtain ⟨d0, d1, d2, rfl⟩ := list3 hl
    rfl
  · intro W vs ds ps h
    exact trodAll_len h
  intro W base args ds p hval hA hlt hw hG
  rw [Tryd.params11] at hA hval hw
  obtain ⟨v0, v1, v2, d0, d1, d2, p0, p1, p2, rfl, rfl, rfl, h0, h1, h2⟩ := trodAll_three hA
  obtain ⟨A, m, c, l, rfl, _, _, hL, h16⟩ := open_locals (hval 0 63 v0 rfl rfl) h0
  obtain ⟨ns, rfl, hn⟩ := open_int3 (hval 1 64 v1 rfl rfl) h1
  obtain ⟨b2, rfl, rfl, rfl⟩ := open_bool Tryd.underlying4 (hval 2 4 v2 rfl rfl) h2
  obtain ⟨n0, n1, n2, rfl⟩ : ∃ n0 n1 n2, ns = [n0, n1, n2] := by
    match ns, hn with
    | [a, b, c], _ => exact ⟨a, b, c, rfl⟩
  exact llmnrAnswers_any A m c l n0 n1 n2 b2 W hL h16 hG

theorem llmnrAnswers_joined : joinedFacts Tryd.prog 11 Tryd.f11 Rows.llmnrAnswersSpec Rows.llmnrAnswersRow = true :=
  joined_of seat_mayEnter seat_lifts seat_make rfl rfl rfl rfl (by kernel_rfl) (by kernel_rfl) (by kernel_rfl) (by kernel_rfl) (by kernel_rfl) (by kernel_rfl) (by kernel_rfl) (by kernel_rfl) (by kernel_rfl) (by kernel_rfl) (by kernel_rfl) (by kernel_rfl) (by kernel_rfl) (by kernel_rfl) (by kernel_rfl) (by kernel_rfl) (by kernel_rfl) (by kernel_rfl) (by kernel_rfl) (by kernel_rfl) (by kernel_rfl) (by kernel_rfl) (by kernel_rfl) (by kernel_rfl) (by kernel_rfl) (by kernel_rfl) (by kernel_rfl) (by kernel_rfl)
theorem llmnrAnswers_holds : Rows.LlmnrAnswersSaid :=
  OpenClaim.holds_of_wide 11 Tryd.f11 rfl rfl rfl rfl rfl rfl rfl ⟨rfl, rfl, rfl, rfl, rfl⟩ rfl rfl rfl rfl rfl (by kernel_rfl) Tryd.func11 llmnrAnswers_joined
    (of_decide_eq_true (by kernel_rfl)) (by unfold Func.isWrapper; first | (rw [if_pos (by decide +kernel)]; kernel_rfl) | (rw [if_neg (by decide +kernel)]; exact ⟨rfl, rfl⟩))
    (fun os started H enc _ => llmnrAnswers_lifted os started H enc)
theorem llmnrAnswers_card : Rows.LlmnrAnswersCardSaid :=
  Claim7.holds_tied_plain_at .later [] [.data] true (true, "6afa14409c1fcf784e159d3dd9af9e0af6fc07a3d3e06aa2c8b4c577951ca517") false llmnrAnswers_holds (fun _ h => by cases h) (by kernel_rfl) (fun _ h => by cases h) llmnrAnswers_row_tie rfl ⟨rfl, rfl⟩ seat_main rfl
    (fun f fn hf hfn => by
      obtain rfl : f = 11 := Option.some.inj ((show Tryd.prog.funcNamed "nomenclator/nomenclatorlaw14.LlmnrAnswers" = some 11 by kernel_rfl).symm.trans hf) |>.symm
      obtain rfl : fn = Tryd.f11 := (Option.some.inj (Tryd.func11.symm.trans hfn)).symm
      exact ⟨by kernel_rfl, fun j t ht => by
        rw [Tryd.params11] at ht
        have hm : t ∈ [63, 64, 4] := by simpa using Array.mem_of_getElem? ht
        have hall : ([63, 64, 4].all fun u => !Tryd.prog.wantsStandIn u) = true := by kernel_rfl
        exact (show Tryd.prog.wantsStandIn t = false by simpa using List.all_eq_true.1 hall t hm)⟩)
    (by kernel_rfl)
end Go.Proofs.YthcpjcgjmdfpjaaDoor
