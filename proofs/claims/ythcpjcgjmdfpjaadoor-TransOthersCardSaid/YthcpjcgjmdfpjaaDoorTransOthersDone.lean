/- TransOthers: the statement TransOthers is proved (its card); no conditions. Here: Others, TransOthersCard. -/
import Derived.Test.YthcpjcgjmdfpjaaDoorWordsTrans
import Derived.Test.YthcpjcgjmdfpjaaDoorCoreB
import Derived.Test.YthcpjcgjmdfpjaaDoorCoreE
namespace Go.Proofs.YthcpjcgjmdfpjaaDoor
open Go Go.RowKit
set_option maxRecDepth 100000
set_option maxHeartbeats 4000000

theorem R.eql25D {l : Env} {w : World} {x y : Operand} {ty : TypeId} {a b : List UInt8} {m n : Int} (hx : ev l x = some (.agg #[sv a, .int .i64 m])) (hy : ev l y = some (.agg #[sv b, .int .i64 n])) : Runs Tryd.prog l (.binOp .eql 25 x y ty) w (.bool (decide (a = b ∧ m = n))) w := R.eql25 hx hy rfl
theorem R.eql27D {l : Env} {w : World} {x y : Operand} {ty : TypeId} {a b : List UInt8} (ha : a.length = 16) (hb : b.length = 16) (hx : ev l x = some (.agg (a.map u8v).toArray)) (hy : ev l y = some (.agg (b.map u8v).toArray)) : Runs Tryd.prog l (.binOp .eql 27 x y ty) w (.bool (decide (a = b))) w := R.eql27 ha hb hx hy rfl
def wantB (S T : Tr) (group : Bool) : Bool := decide (S.id = T.id) && decide (S.port = T.port) && decide (S.qname = T.qname ∧ S.qtype = T.qtype) && decide (S.link = T.link) && decide (S.gen = T.gen) && (group || decide (S.to = T.to))
theorem others_yes {S T : Tr} {n m : Int} {group : Bool} (_hS : TOk S n group) (hT : TOk T m group) (hp : passT T S.link S.gen S.to S.port = true) : ansT T ⟨S.id, true, false, false, 0, S.qname, S.qtype, [], []⟩ = wantB S T group := by
  unfold passT at hp
  simp only [Bool.and_eq_true, decide_eq_true_eq, Bool.or_eq_true, hT.group] at hp
  obtain ⟨⟨⟨h1, h2⟩, h3⟩, h4⟩ := hp
  have h5 : (group || decide (S.to = T.to)) = true := by
    rcases h4 with h | h
    · simp [h]
    · simp [h]
  unfold ansT wantB
  rw [h5]
  by_cases e1 : S.id = T.id <;> by_cases e2 : S.qname = T.qname <;> by_cases e3 : S.qtype = T.qtype <;> simp [h1, h2, h3, e1, e2, e3]
theorem others_no {S T : Tr} {n m : Int} {group : Bool} (hS : TOk S n group) (hT : TOk T m group) (hp : passT T S.link S.gen S.to S.port = false) : false = wantB S T group := by
  unfold passT at hp
  rw [hT.group] at hp
  unfold wantB
  by_cases e1 : S.link = T.link <;> by_cases e2 : S.gen = T.gen <;> by_cases e3 : S.port = T.port <;> by_cases e4 : S.to = T.to <;> cases group <;> simp_all
theorem transOthers_any (n m : Int) (group : Bool) (w0 : World) (hG : Glob w0) : Calls Tryd.prog 8 #[.int .i64 n, .int .i64 m, .bool group] w0 fun e w' => e = .returned (.bool true) ∧ Chg (fun _ => False) w0 w' := by
  have hC := Chg.refl (fun _ => False) w0
  have hz16 : zero16.length = 16 := rfl
  refine calls_cw (args := [.int .i64 n, .int .i64 m, .bool group]) Tryd.func8 rfl rfl ?_
  show CW _ _ _ 106 [(0, .int .i64 n), (1, .int .i64 m), (2, .bool group)] w0
  refine CW.rseq ?_
  refine WL.op (by decide) (R.assign rfl) ?_
  refine WL.next ?_
  refine CW.seq ?_
  refine CW.rseq ?_
  refine WL.eff rfl (OP.call (by decide) Tryd.func21 (by kernel_rfl) (by kernel_rfl) rfl (fit13_any _ (hG.keep0 hC)) ?_)
  rintro ed w1 ⟨rfl, hc_w1⟩
  refine ⟨_, rfl, ?_⟩
  have hC := hC.trans hc_w1
  have hz_w1 := hc_w1.size
  refine WL.op (by decide) (R.not rfl) ?_
  refine WL.next ?_
  refine CW.condF rfl ?_
  refine CW.skip ?_
  refine EW.next ?_
  refine CW.rseq ?_
  refine WL.op (by decide) (R.move rfl) ?_
  refine WL.op (by decide) (R.move rfl) ?_
  refine WL.eff rfl (OP.call (by decide) Tryd.func22 (by kernel_rfl) (by kernel_rfl) rfl (build_any _ _ _) ?_)
  rintro ed w2 ⟨rfl, hc_w2⟩
  have hkS := buildT_ok n group
  have h16S : (buildT n group).to.length = 16 := rfl
  obtain ⟨S, hS0⟩ : ∃ T, T = buildT n group := ⟨_, rfl⟩
  rw [← hS0] at hkS h16S ⊢
  clear hS0
  refine ⟨_, rfl, ?_⟩
  have hC := hC.trans hc_w2
  have hz_w2 := hc_w2.size
  refine WL.op (by decide) (R.move rfl) ?_
  refine WL.op (by decide) (R.move rfl) ?_
  refine WL.eff rfl (OP.call (by decide) Tryd.func22 (by kernel_rfl) (by kernel_rfl) rfl (build_any _ _ _) ?_)
  rintro ed w3 ⟨rfl, hc_w3⟩
  have hkT := buildT_ok m group
  have h16T : (buildT m group).to.length = 16 := rfl
  obtain ⟨T, hT0⟩ : ∃ T, T = buildT m group := ⟨_, rfl⟩
  rw [← hT0] at hkT h16T ⊢
  clear hT0
  refine ⟨_, rfl, ?_⟩
  have hC := hC.trans hc_w3
  have hz_w3 := hc_w3.size
  refine WL.eff rfl (OP.allocT (by decide) ?_)
  intro w4 hc_w4 hs_w4 hB7
  obtain ⟨b7, he_b7⟩ : ∃ b, b = w3.heap.size := ⟨_, rfl⟩
  rw [← he_b7] at hB7 ⊢
  have hC := hC.trans hc_w4
  have hz_w4 := hc_w4.size
  refine WL.eff rfl (OP.allocT (by decide) ?_)
  intro w5 hc_w5 hs_w5 hB8
  obtain ⟨b8, he_b8⟩ : ∃ b, b = w4.heap.size := ⟨_, rfl⟩
  rw [← he_b8] at hB8 ⊢
  have hB7 := hc_w5.at hB7 (fun e => e)
  have hC := hC.trans hc_w5
  have hz_w5 := hc_w5.size
  refine WL.eff rfl (OP.storeT (by assumption) (by first | rfl | assumption) rfl rfl hB7 ?_)
  intro w6 hc_w6 hs_w6 hB7
  have hB8 := hc_w6.at hB8 (fun e => by omega)
  have hC := hC.thenB hc_w6 (by omega)
  refine WL.eff rfl (OP.storeT (by assumption) (by first | rfl | assumption) rfl rfl hB8 ?_)
  intro w7 hc_w7 hs_w7 hB8
  have hB7 := hc_w7.at hB7 (fun e => by omega)
  have hC := hC.thenB hc_w7 (by omega)
  refine WL.next ?_
  refine CW.rseq ?_
  refine WL.op (by decide) (FA29_4 rfl) ?_
  refine WL.op (by decide) (R.load Tryd.underlying3 rfl rfl (cell_at hB7 (Tr.at20 (by assumption)))) ?_
  refine WL.op (by decide) (FA29_0 rfl) ?_
  refine WL.op (by decide) (R.loadTQ rfl hB7) ?_
  refine WL.op (by decide) (R.build (parts := [(0, _), (1, _), (5, _)]) (vals := [(0, _), (1, _), (5, _)]) rfl (fun w => build33_015 _ true _ _ w)) ?_
  refine WL.eff rfl (OP.call (by decide) Tryd.func24 (by kernel_rfl) (by kernel_rfl) rfl (encode_src _ _ _ ⟨_, _, rfl, (RSl.nil _), (RSl.nil _)⟩ (hkS.back true false false)) ?_)
  rintro ed w8 ⟨gE, ceE, bsE, rfl, hbsE, hBufE, hSrcE, hmoreE, hdecE, hblE, hgeE, hglE, hc_w8⟩
  refine ⟨_, rfl, ?_⟩
  have hB7 := hc_w8.at hB7 (fun e => e)
  have hB8 := hc_w8.at hB8 (fun e => e)
  have hC := hC.trans hc_w8
  have hz_w8 := hc_w8.size
  have hK8 : Chg (fun _ => False) w8 w8 := Chg.refl _ _
  refine WL.op (by decide) (R.assign rfl) ?_
  refine WL.next ?_
  refine CW.rseq ?_
  refine WL.op (by decide) (R.loadT (by assumption) rfl hB7) ?_
  refine WL.op (by decide) (FA29_1 rfl) ?_
  refine WL.op (by decide) (R.load Tryd.underlying3 rfl rfl (cell_at hB7 rfl)) ?_
  refine WL.op (by decide) (FA29_2 rfl) ?_
  refine WL.op (by decide) (R.load Tryd.underlying3 rfl rfl (cell_at hB7 rfl)) ?_
  refine WL.op (by decide) (FA29_3 rfl) ?_
  refine WL.op (by decide) (R.loadTTo (by assumption) rfl hB7) ?_
  refine WL.op (by decide) (FA29_5 rfl) ?_
  refine WL.op (by decide) (R.load Tryd.underlying3 rfl rfl (cell_at hB7 (Tr.at21 (by assumption)))) ?_
  refine WL.op (by decide) (R.move rfl) ?_
  refine WL.eff rfl (OP.call (by decide) Tryd.func23 (by kernel_rfl) (by kernel_rfl) rfl (match_any _ _ _ _ _ _ _ _ _ _ (by assumption) (by assumption) (hSrcE.keep0 hK8) (by rintro _ _ ⟨⟩; omega) (by omega) (hG.keep0 hC)) ?_)
  rintro ed w9 ⟨hc_w9, hres⟩
  rw [hdecE] at hres
  have hB7 := hc_w9.at hB7 (fun e => e)
  have hB8 := hc_w9.at hB8 (fun e => e)
  have hC := hC.trans hc_w9
  have hK8 := hK8.trans hc_w9
  have hz_w9 := hc_w9.size
  rcases match_two hres with ⟨hpA, vaA, vbA, rfl, hvaA, hvbA, hoaA, hobA⟩ | ⟨hpA, rfl⟩
  · skip
    obtain ⟨AaA, caA, rfl, _⟩ := hvaA.form
    obtain ⟨AbA, cbA, rfl, _⟩ := hvbA.form
    have hK9 : Chg (fun _ => False) w9 w9 := Chg.refl _ _
    refine ⟨_, rfl, ?_⟩
    rw [show ansT S ⟨S.id, true, false, false, 0, S.qname, S.qtype, [], []⟩ = true from ans_self rfl rfl rfl rfl]
    refine WL.op (by decide) (R.move rfl) ?_
    refine WL.op (by decide) (R.extract rfl rfl) ?_
    refine WL.op (by decide) (R.extract rfl rfl) ?_
    refine WL.eff rfl (OP.allocM (by decide) ?_)
    intro w10 hc_w10 hs_w10 hB10
    obtain ⟨b10, he_b10⟩ : ∃ b, b = w9.heap.size := ⟨_, rfl⟩
    rw [← he_b10] at hB10 ⊢
    have hB7 := hc_w10.at hB7 (fun e => e)
    have hB8 := hc_w10.at hB8 (fun e => e)
    have hC := hC.trans hc_w10
    have hK8 := hK8.trans hc_w10
    have hK9 := hK9.trans hc_w10
    have hz_w10 := hc_w10.size
    refine WL.eff rfl (OP.storeM rfl rfl hB10 ?_)
    intro w11 hc_w11 hs_w11 hB10
    have hB7 := hc_w11.at hB7 (fun e => by omega)
    have hB8 := hc_w11.at hB8 (fun e => by omega)
    have hC := hC.thenB hc_w11 (by omega)
    have hK8 := hK8.thenB hc_w11 (by omega)
    have hK9 := hK9.thenB hc_w11 (by omega)
    refine WL.op (by decide) (R.assign rfl) ?_
    refine WL.next ?_
    refine CW.rseq ?_
    refine WL.op (by decide) (R.loadT (by assumption) rfl hB8) ?_
    refine WL.op (by decide) (FA29_1 rfl) ?_
    refine WL.op (by decide) (R.load Tryd.underlying3 rfl rfl (cell_at hB7 rfl)) ?_
    refine WL.op (by decide) (FA29_2 rfl) ?_
    refine WL.op (by decide) (R.load Tryd.underlying3 rfl rfl (cell_at hB7 rfl)) ?_
    refine WL.op (by decide) (FA29_3 rfl) ?_
    refine WL.op (by decide) (R.loadTTo (by assumption) rfl hB7) ?_
    refine WL.op (by decide) (FA29_5 rfl) ?_
    refine WL.op (by decide) (R.load Tryd.underlying3 rfl rfl (cell_at hB7 (Tr.at21 (by assumption)))) ?_
    refine WL.op (by decide) (R.move rfl) ?_
    refine WL.eff rfl (OP.call (by decide) Tryd.func23 (by kernel_rfl) (by kernel_rfl) rfl (match_any _ _ _ _ _ _ _ _ _ _ (by assumption) (by assumption) (hSrcE.keep0 hK8) (by rintro _ _ ⟨⟩; omega) (by omega) (hG.keep0 hC)) ?_)
    rintro ed w12 ⟨hc_w12, hres⟩
    rw [hdecE] at hres
    have hB7 := hc_w12.at hB7 (fun e => e)
    have hB8 := hc_w12.at hB8 (fun e => e)
    have hB10 := hc_w12.at hB10 (fun e => e)
    have hC := hC.trans hc_w12
    have hK8 := hK8.trans hc_w12
    have hK9 := hK9.trans hc_w12
    have hz_w12 := hc_w12.size
    rcases match_two hres with ⟨hpB, vaB, vbB, rfl, hvaB, hvbB, hoaB, hobB⟩ | ⟨hpB, rfl⟩
    · skip
      obtain ⟨AaB, caB, rfl, _⟩ := hvaB.form
      obtain ⟨AbB, cbB, rfl, _⟩ := hvbB.form
      have hK12 : Chg (fun _ => False) w12 w12 := Chg.refl _ _
      refine ⟨_, rfl, ?_⟩
      refine WL.op (by decide) (R.move rfl) ?_
      refine WL.op (by decide) (R.extract rfl rfl) ?_
      refine WL.op (by decide) (R.extract rfl rfl) ?_
      refine WL.eff rfl (OP.allocM (by decide) ?_)
      intro w13 hc_w13 hs_w13 hB12
      obtain ⟨b12, he_b12⟩ : ∃ b, b = w12.heap.size := ⟨_, rfl⟩
      rw [← he_b12] at hB12 ⊢
      have hB7 := hc_w13.at hB7 (fun e => e)
      have hB8 := hc_w13.at hB8 (fun e => e)
      have hB10 := hc_w13.at hB10 (fun e => e)
      have hC := hC.trans hc_w13
      have hK8 := hK8.trans hc_w13
      have hK9 := hK9.trans hc_w13
      have hK12 := hK12.trans hc_w13
      have hz_w13 := hc_w13.size
      refine WL.eff rfl (OP.storeM rfl rfl hB12 ?_)
      intro w14 hc_w14 hs_w14 hB12
      have hB7 := hc_w14.at hB7 (fun e => by omega)
      have hB8 := hc_w14.at hB8 (fun e => by omega)
      have hB10 := hc_w14.at hB10 (fun e => by omega)
      have hC := hC.thenB hc_w14 (by omega)
      have hK8 := hK8.thenB hc_w14 (by omega)
      have hK9 := hK9.thenB hc_w14 (by omega)
      have hK12 := hK12.thenB hc_w14 (by omega)
      refine WL.op (by decide) (R.assign rfl) ?_
      refine WL.next ?_
      refine CW.rseq ?_
      refine WL.cut 44 (fun le w' => w' = w14 ∧ le = [(11, .bool true), (13, .bool (ansT T ⟨S.id, true, false, false, 0, S.qname, S.qtype, [], []⟩)), (14, .bool (wantB S T group))]) ?_ ?_
      ·
        refine WL.op (by decide) (FA29_4 rfl) ?_
        refine WL.op (by decide) (R.load Tryd.underlying3 rfl rfl (cell_at hB7 (Tr.at20 (by assumption)))) ?_
        refine WL.op (by decide) (FA29_4 rfl) ?_
        refine WL.op (by decide) (R.load Tryd.underlying3 rfl rfl (cell_at hB8 (Tr.at20 (by assumption)))) ?_
        refine WL.eqlS (by decide) rfl rfl (fun h1 => ?_) (fun h1 => ?_)
        · skip
          refine WL.op (by decide) (R.move rfl) ?_
          refine WL.gop (by decide) rfl rfl rfl (FA29_5 rfl) ?_
          refine WL.gop (by decide) rfl rfl rfl (R.load Tryd.underlying3 rfl rfl (cell_at hB7 (Tr.at21 (by assumption)))) ?_
          refine WL.gop (by decide) rfl rfl rfl (FA29_5 rfl) ?_
          refine WL.gop (by decide) rfl rfl rfl (R.load Tryd.underlying3 rfl rfl (cell_at hB8 (Tr.at21 (by assumption)))) ?_
          refine WL.gsplit _ (by decide) rfl rfl rfl (R.eqlD rfl rfl) (fun h2 => ?_) (fun h2 => ?_)
          · skip
            refine WL.op (by decide) (R.pickT rfl rfl) ?_
            refine WL.op (by decide) (R.move rfl) ?_
            refine WL.gop (by decide) rfl rfl rfl (FA29_0 rfl) ?_
            refine WL.gop (by decide) rfl rfl rfl (R.loadTQ rfl hB7) ?_
            refine WL.gop (by decide) rfl rfl rfl (FA29_0 rfl) ?_
            refine WL.gop (by decide) rfl rfl rfl (R.loadTQ rfl hB8) ?_
            refine WL.gsplit _ (by decide) rfl rfl rfl (R.eql25D rfl rfl) (fun h3 => ?_) (fun h3 => ?_)
            · skip
              refine WL.op (by decide) (R.pickT rfl rfl) ?_
              refine WL.op (by decide) (R.move rfl) ?_
              refine WL.gop (by decide) rfl rfl rfl (FA29_1 rfl) ?_
              refine WL.gop (by decide) rfl rfl rfl (R.load Tryd.underlying3 rfl rfl (cell_at hB7 rfl)) ?_
              refine WL.gop (by decide) rfl rfl rfl (FA29_1 rfl) ?_
              refine WL.gop (by decide) rfl rfl rfl (R.load Tryd.underlying3 rfl rfl (cell_at hB8 rfl)) ?_
              refine WL.gsplit _ (by decide) rfl rfl rfl (R.eqlD rfl rfl) (fun h4 => ?_) (fun h4 => ?_)
              · skip
                refine WL.op (by decide) (R.pickT rfl rfl) ?_
                refine WL.op (by decide) (R.move rfl) ?_
                refine WL.gop (by decide) rfl rfl rfl (FA29_2 rfl) ?_
                refine WL.gop (by decide) rfl rfl rfl (R.load Tryd.underlying3 rfl rfl (cell_at hB7 rfl)) ?_
                refine WL.gop (by decide) rfl rfl rfl (FA29_2 rfl) ?_
                refine WL.gop (by decide) rfl rfl rfl (R.load Tryd.underlying3 rfl rfl (cell_at hB8 rfl)) ?_
                refine WL.gsplit _ (by decide) rfl rfl rfl (R.eqlD rfl rfl) (fun h5 => ?_) (fun h5 => ?_)
                · skip
                  refine WL.op (by decide) (R.pickT rfl rfl) ?_
                  refine WL.op (by decide) (R.move rfl) ?_
                  refine WL.gop (by decide) rfl rfl rfl (R.move rfl) ?_
                  cases hg0 : group
                  · skip
                    skip
                    refine WL.gop (by decide) rfl rfl rfl (R.move rfl) ?_
                    refine WL.gop (by decide) rfl rfl rfl (FA29_3 rfl) ?_
                    refine WL.gop (by decide) rfl rfl rfl (R.loadTTo (by assumption) rfl hB7) ?_
                    refine WL.gop (by decide) rfl rfl rfl (FA29_3 rfl) ?_
                    refine WL.gop (by decide) rfl rfl rfl (R.loadTTo (by assumption) rfl hB8) ?_
                    refine WL.gsplit _ (by decide) rfl rfl rfl (R.eql27D (by assumption) (by assumption) rfl rfl) (fun h6 => ?_) (fun h6 => ?_)
                    · skip
                      refine WL.gop (by decide) rfl rfl rfl (R.pickF rfl rfl) ?_
                      refine WL.op (by decide) (R.pickT rfl rfl) ?_
                      refine WL.op (by decide) (R.assign rfl) ?_
                      exact WL.cutEnd [11, 13, 14] ⟨rfl, by rw [show wantB S T false = true from by simp [wantB, *]]; rfl⟩
                    · skip
                      refine WL.gop (by decide) rfl rfl rfl (R.pickF rfl rfl) ?_
                      refine WL.op (by decide) (R.pickT rfl rfl) ?_
                      refine WL.op (by decide) (R.assign rfl) ?_
                      exact WL.cutEnd [11, 13, 14] ⟨rfl, by rw [show wantB S T false = false from by simp [wantB, *]]; rfl⟩
                  · skip
                    skip
                    refine WL.gop (by decide) rfl rfl rfl (R.move rfl) ?_
                    refine WL.pass (by decide) rfl rfl rfl ?_
                    refine WL.pass (by decide) rfl rfl rfl ?_
                    refine WL.pass (by decide) rfl rfl rfl ?_
                    refine WL.pass (by decide) rfl rfl rfl ?_
                    refine WL.pass (by decide) rfl rfl rfl ?_
                    refine WL.gop (by decide) rfl rfl rfl (R.pickT rfl rfl) ?_
                    refine WL.op (by decide) (R.pickT rfl rfl) ?_
                    refine WL.op (by decide) (R.assign rfl) ?_
                    exact WL.cutEnd [11, 13, 14] ⟨rfl, by rw [show wantB S T true = true from by simp [wantB, *]]; rfl⟩
                · skip
                  refine WL.op (by decide) (R.pickT rfl rfl) ?_
                  refine WL.op (by decide) (R.move rfl) ?_
                  refine WL.pass (by decide) rfl rfl rfl ?_
                  refine WL.pass (by decide) rfl rfl rfl ?_
                  refine WL.passU (by decide) rfl rfl ?_
                  refine WL.passU (by decide) rfl rfl ?_
                  refine WL.passU (by decide) rfl rfl ?_
                  refine WL.passU (by decide) rfl rfl ?_
                  refine WL.passU (by decide) rfl rfl ?_
                  refine WL.pass (by decide) rfl rfl rfl ?_
                  refine WL.op (by decide) (R.pickF rfl rfl) ?_
                  refine WL.op (by decide) (R.assign rfl) ?_
                  exact WL.cutEnd [11, 13, 14] ⟨rfl, by rw [show wantB S T group = false from by simp [wantB, *]]; rfl⟩
              · skip
                refine WL.op (by decide) (R.pickT rfl rfl) ?_
                refine WL.op (by decide) (R.move rfl) ?_
                refine WL.pass (by decide) rfl rfl rfl ?_
                refine WL.pass (by decide) rfl rfl rfl ?_
                refine WL.pass (by decide) rfl rfl rfl ?_
                refine WL.pass (by decide) rfl rfl rfl ?_
                refine WL.pass (by decide) rfl rfl rfl ?_
                refine WL.op (by decide) (R.pickF rfl rfl) ?_
                refine WL.op (by decide) (R.move rfl) ?_
                refine WL.pass (by decide) rfl rfl rfl ?_
                refine WL.pass (by decide) rfl rfl rfl ?_
                refine WL.passU (by decide) rfl rfl ?_
                refine WL.passU (by decide) rfl rfl ?_
                refine WL.passU (by decide) rfl rfl ?_
                refine WL.passU (by decide) rfl rfl ?_
                refine WL.passU (by decide) rfl rfl ?_
                refine WL.pass (by decide) rfl rfl rfl ?_
                refine WL.op (by decide) (R.pickF rfl rfl) ?_
                refine WL.op (by decide) (R.assign rfl) ?_
                exact WL.cutEnd [11, 13, 14] ⟨rfl, by rw [show wantB S T group = false from by simp [wantB, *]]; rfl⟩
            · skip
              refine WL.op (by decide) (R.pickT rfl rfl) ?_
              refine WL.op (by decide) (R.move rfl) ?_
              refine WL.pass (by decide) rfl rfl rfl ?_
              refine WL.pass (by decide) rfl rfl rfl ?_
              refine WL.pass (by decide) rfl rfl rfl ?_
              refine WL.pass (by decide) rfl rfl rfl ?_
              refine WL.pass (by decide) rfl rfl rfl ?_
              refine WL.op (by decide) (R.pickF rfl rfl) ?_
              refine WL.op (by decide) (R.move rfl) ?_
              refine WL.pass (by decide) rfl rfl rfl ?_
              refine WL.pass (by decide) rfl rfl rfl ?_
              refine WL.pass (by decide) rfl rfl rfl ?_
              refine WL.pass (by decide) rfl rfl rfl ?_
              refine WL.pass (by decide) rfl rfl rfl ?_
              refine WL.op (by decide) (R.pickF rfl rfl) ?_
              refine WL.op (by decide) (R.move rfl) ?_
              refine WL.pass (by decide) rfl rfl rfl ?_
              refine WL.pass (by decide) rfl rfl rfl ?_
              refine WL.passU (by decide) rfl rfl ?_
              refine WL.passU (by decide) rfl rfl ?_
              refine WL.passU (by decide) rfl rfl ?_
              refine WL.passU (by decide) rfl rfl ?_
              refine WL.passU (by decide) rfl rfl ?_
              refine WL.pass (by decide) rfl rfl rfl ?_
              refine WL.op (by decide) (R.pickF rfl rfl) ?_
              refine WL.op (by decide) (R.assign rfl) ?_
              exact WL.cutEnd [11, 13, 14] ⟨rfl, by rw [show wantB S T group = false from by simp [wantB, *]]; rfl⟩
          · skip
            refine WL.op (by decide) (R.pickT rfl rfl) ?_
            refine WL.op (by decide) (R.move rfl) ?_
            refine WL.pass (by decide) rfl rfl rfl ?_
            refine WL.pass (by decide) rfl rfl rfl ?_
            refine WL.pass (by decide) rfl rfl rfl ?_
            refine WL.pass (by decide) rfl rfl rfl ?_
            refine WL.pass (by decide) rfl rfl rfl ?_
            refine WL.op (by decide) (R.pickF rfl rfl) ?_
            refine WL.op (by decide) (R.move rfl) ?_
            refine WL.pass (by decide) rfl rfl rfl ?_
            refine WL.pass (by decide) rfl rfl rfl ?_
            refine WL.pass (by decide) rfl rfl rfl ?_
            refine WL.pass (by decide) rfl rfl rfl ?_
            refine WL.pass (by decide) rfl rfl rfl ?_
            refine WL.op (by decide) (R.pickF rfl rfl) ?_
            refine WL.op (by decide) (R.move rfl) ?_
            refine WL.pass (by decide) rfl rfl rfl ?_
            refine WL.pass (by decide) rfl rfl rfl ?_
            refine WL.pass (by decide) rfl rfl rfl ?_
            refine WL.pass (by decide) rfl rfl rfl ?_
            refine WL.pass (by decide) rfl rfl rfl ?_
            refine WL.op (by decide) (R.pickF rfl rfl) ?_
            refine WL.op (by decide) (R.move rfl) ?_
            refine WL.pass (by decide) rfl rfl rfl ?_
            refine WL.pass (by decide) rfl rfl rfl ?_
            refine WL.passU (by decide) rfl rfl ?_
            refine WL.passU (by decide) rfl rfl ?_
            refine WL.passU (by decide) rfl rfl ?_
            refine WL.passU (by decide) rfl rfl ?_
            refine WL.passU (by decide) rfl rfl ?_
            refine WL.pass (by decide) rfl rfl rfl ?_
            refine WL.op (by decide) (R.pickF rfl rfl) ?_
            refine WL.op (by decide) (R.assign rfl) ?_
            exact WL.cutEnd [11, 13, 14] ⟨rfl, by rw [show wantB S T group = false from by simp [wantB, *]]; rfl⟩
        · skip
          refine WL.op (by decide) (R.move rfl) ?_
          refine WL.pass (by decide) rfl rfl rfl ?_
          refine WL.pass (by decide) rfl rfl rfl ?_
          refine WL.pass (by decide) rfl rfl rfl ?_
          refine WL.pass (by decide) rfl rfl rfl ?_
          refine WL.pass (by decide) rfl rfl rfl ?_
          refine WL.op (by decide) (R.pickF rfl rfl) ?_
          refine WL.op (by decide) (R.move rfl) ?_
          refine WL.pass (by decide) rfl rfl rfl ?_
          refine WL.pass (by decide) rfl rfl rfl ?_
          refine WL.pass (by decide) rfl rfl rfl ?_
          refine WL.pass (by decide) rfl rfl rfl ?_
          refine WL.pass (by decide) rfl rfl rfl ?_
          refine WL.op (by decide) (R.pickF rfl rfl) ?_
          refine WL.op (by decide) (R.move rfl) ?_
          refine WL.pass (by decide) rfl rfl rfl ?_
          refine WL.pass (by decide) rfl rfl rfl ?_
          refine WL.pass (by decide) rfl rfl rfl ?_
          refine WL.pass (by decide) rfl rfl rfl ?_
          refine WL.pass (by decide) rfl rfl rfl ?_
          refine WL.op (by decide) (R.pickF rfl rfl) ?_
          refine WL.op (by decide) (R.move rfl) ?_
          refine WL.pass (by decide) rfl rfl rfl ?_
          refine WL.pass (by decide) rfl rfl rfl ?_
          refine WL.pass (by decide) rfl rfl rfl ?_
          refine WL.pass (by decide) rfl rfl rfl ?_
          refine WL.pass (by decide) rfl rfl rfl ?_
          refine WL.op (by decide) (R.pickF rfl rfl) ?_
          refine WL.op (by decide) (R.move rfl) ?_
          refine WL.pass (by decide) rfl rfl rfl ?_
          refine WL.pass (by decide) rfl rfl rfl ?_
          refine WL.passU (by decide) rfl rfl ?_
          refine WL.passU (by decide) rfl rfl ?_
          refine WL.passU (by decide) rfl rfl ?_
          refine WL.passU (by decide) rfl rfl ?_
          refine WL.passU (by decide) rfl rfl ?_
          refine WL.pass (by decide) rfl rfl rfl ?_
          refine WL.op (by decide) (R.pickF rfl rfl) ?_
          refine WL.op (by decide) (R.assign rfl) ?_
          exact WL.cutEnd [11, 13, 14] ⟨rfl, by rw [show wantB S T group = false from by simp [wantB, *]]; rfl⟩
      · rintro le w' ⟨rfl, rfl⟩
        refine WL.next ?_
        refine CW.rseq ?_
        refine WL.op (by decide) (R.move rfl) ?_
        refine WL.op (by decide) (R.move rfl) ?_
        refine WL.gop (by decide) rfl rfl rfl (R.move rfl) ?_
        refine WL.gop (by decide) rfl rfl rfl (R.move rfl) ?_
        refine WL.gop (by decide) rfl rfl rfl (R.eqlBT rfl rfl (others_yes hkS hkT hpB)) ?_
        refine WL.op (by decide) (R.pickT rfl rfl) ?_
        refine WL.op (by decide) (R.assign rfl) ?_
        refine WL.next ?_
        refine CW.ret ?_
        exact EW.ret1 (.inl rfl) rfl rfl ⟨rfl, hC⟩
    · skip
      refine ⟨_, rfl, ?_⟩
      refine WL.op (by decide) (R.move rfl) ?_
      refine WL.op (by decide) (R.extract rfl rfl) ?_
      refine WL.op (by decide) (R.extract rfl rfl) ?_
      refine WL.eff rfl (OP.allocM (by decide) ?_)
      intro w15 hc_w15 hs_w15 hB12
      obtain ⟨b12, he_b12⟩ : ∃ b, b = w12.heap.size := ⟨_, rfl⟩
      rw [← he_b12] at hB12 ⊢
      have hB7 := hc_w15.at hB7 (fun e => e)
      have hB8 := hc_w15.at hB8 (fun e => e)
      have hB10 := hc_w15.at hB10 (fun e => e)
      have hC := hC.trans hc_w15
      have hK8 := hK8.trans hc_w15
      have hK9 := hK9.trans hc_w15
      have hz_w15 := hc_w15.size
      refine WL.eff rfl (OP.storeM rfl rfl hB12 ?_)
      intro w16 hc_w16 hs_w16 hB12
      have hB7 := hc_w16.at hB7 (fun e => by omega)
      have hB8 := hc_w16.at hB8 (fun e => by omega)
      have hB10 := hc_w16.at hB10 (fun e => by omega)
      have hC := hC.thenB hc_w16 (by omega)
      have hK8 := hK8.thenB hc_w16 (by omega)
      have hK9 := hK9.thenB hc_w16 (by omega)
      refine WL.op (by decide) (R.assign rfl) ?_
      refine WL.next ?_
      refine CW.rseq ?_
      refine WL.cut 44 (fun le w' => w' = w16 ∧ le = [(11, .bool true), (13, .bool false), (14, .bool (wantB S T group))]) ?_ ?_
      ·
        refine WL.op (by decide) (FA29_4 rfl) ?_
        refine WL.op (by decide) (R.load Tryd.underlying3 rfl rfl (cell_at hB7 (Tr.at20 (by assumption)))) ?_
        refine WL.op (by decide) (FA29_4 rfl) ?_
        refine WL.op (by decide) (R.load Tryd.underlying3 rfl rfl (cell_at hB8 (Tr.at20 (by assumption)))) ?_
        refine WL.eqlS (by decide) rfl rfl (fun h7 => ?_) (fun h7 => ?_)
        · skip
          refine WL.op (by decide) (R.move rfl) ?_
          refine WL.gop (by decide) rfl rfl rfl (FA29_5 rfl) ?_
          refine WL.gop (by decide) rfl rfl rfl (R.load Tryd.underlying3 rfl rfl (cell_at hB7 (Tr.at21 (by assumption)))) ?_
          refine WL.gop (by decide) rfl rfl rfl (FA29_5 rfl) ?_
          refine WL.gop (by decide) rfl rfl rfl (R.load Tryd.underlying3 rfl rfl (cell_at hB8 (Tr.at21 (by assumption)))) ?_
          refine WL.gsplit _ (by decide) rfl rfl rfl (R.eqlD rfl rfl) (fun h8 => ?_) (fun h8 => ?_)
          · skip
            refine WL.op (by decide) (R.pickT rfl rfl) ?_
            refine WL.op (by decide) (R.move rfl) ?_
            refine WL.gop (by decide) rfl rfl rfl (FA29_0 rfl) ?_
            refine WL.gop (by decide) rfl rfl rfl (R.loadTQ rfl hB7) ?_
            refine WL.gop (by decide) rfl rfl rfl (FA29_0 rfl) ?_
            refine WL.gop (by decide) rfl rfl rfl (R.loadTQ rfl hB8) ?_
            refine WL.gsplit _ (by decide) rfl rfl rfl (R.eql25D rfl rfl) (fun h9 => ?_) (fun h9 => ?_)
            · skip
              refine WL.op (by decide) (R.pickT rfl rfl) ?_
              refine WL.op (by decide) (R.move rfl) ?_
              refine WL.gop (by decide) rfl rfl rfl (FA29_1 rfl) ?_
              refine WL.gop (by decide) rfl rfl rfl (R.load Tryd.underlying3 rfl rfl (cell_at hB7 rfl)) ?_
              refine WL.gop (by decide) rfl rfl rfl (FA29_1 rfl) ?_
              refine WL.gop (by decide) rfl rfl rfl (R.load Tryd.underlying3 rfl rfl (cell_at hB8 rfl)) ?_
              refine WL.gsplit _ (by decide) rfl rfl rfl (R.eqlD rfl rfl) (fun h10 => ?_) (fun h10 => ?_)
              · skip
                refine WL.op (by decide) (R.pickT rfl rfl) ?_
                refine WL.op (by decide) (R.move rfl) ?_
                refine WL.gop (by decide) rfl rfl rfl (FA29_2 rfl) ?_
                refine WL.gop (by decide) rfl rfl rfl (R.load Tryd.underlying3 rfl rfl (cell_at hB7 rfl)) ?_
                refine WL.gop (by decide) rfl rfl rfl (FA29_2 rfl) ?_
                refine WL.gop (by decide) rfl rfl rfl (R.load Tryd.underlying3 rfl rfl (cell_at hB8 rfl)) ?_
                refine WL.gsplit _ (by decide) rfl rfl rfl (R.eqlD rfl rfl) (fun h11 => ?_) (fun h11 => ?_)
                · skip
                  refine WL.op (by decide) (R.pickT rfl rfl) ?_
                  refine WL.op (by decide) (R.move rfl) ?_
                  refine WL.gop (by decide) rfl rfl rfl (R.move rfl) ?_
                  cases hg0 : group
                  · skip
                    skip
                    refine WL.gop (by decide) rfl rfl rfl (R.move rfl) ?_
                    refine WL.gop (by decide) rfl rfl rfl (FA29_3 rfl) ?_
                    refine WL.gop (by decide) rfl rfl rfl (R.loadTTo (by assumption) rfl hB7) ?_
                    refine WL.gop (by decide) rfl rfl rfl (FA29_3 rfl) ?_
                    refine WL.gop (by decide) rfl rfl rfl (R.loadTTo (by assumption) rfl hB8) ?_
                    refine WL.gsplit _ (by decide) rfl rfl rfl (R.eql27D (by assumption) (by assumption) rfl rfl) (fun h12 => ?_) (fun h12 => ?_)
                    · skip
                      refine WL.gop (by decide) rfl rfl rfl (R.pickF rfl rfl) ?_
                      refine WL.op (by decide) (R.pickT rfl rfl) ?_
                      refine WL.op (by decide) (R.assign rfl) ?_
                      exact WL.cutEnd [11, 13, 14] ⟨rfl, by rw [show wantB S T false = true from by simp [wantB, *]]; rfl⟩
                    · skip
                      refine WL.gop (by decide) rfl rfl rfl (R.pickF rfl rfl) ?_
                      refine WL.op (by decide) (R.pickT rfl rfl) ?_
                      refine WL.op (by decide) (R.assign rfl) ?_
                      exact WL.cutEnd [11, 13, 14] ⟨rfl, by rw [show wantB S T false = false from by simp [wantB, *]]; rfl⟩
                  · skip
                    skip
                    refine WL.gop (by decide) rfl rfl rfl (R.move rfl) ?_
                    refine WL.pass (by decide) rfl rfl rfl ?_
                    refine WL.pass (by decide) rfl rfl rfl ?_
                    refine WL.pass (by decide) rfl rfl rfl ?_
                    refine WL.pass (by decide) rfl rfl rfl ?_
                    refine WL.pass (by decide) rfl rfl rfl ?_
                    refine WL.gop (by decide) rfl rfl rfl (R.pickT rfl rfl) ?_
                    refine WL.op (by decide) (R.pickT rfl rfl) ?_
                    refine WL.op (by decide) (R.assign rfl) ?_
                    exact WL.cutEnd [11, 13, 14] ⟨rfl, by rw [show wantB S T true = true from by simp [wantB, *]]; rfl⟩
                · skip
                  refine WL.op (by decide) (R.pickT rfl rfl) ?_
                  refine WL.op (by decide) (R.move rfl) ?_
                  refine WL.pass (by decide) rfl rfl rfl ?_
                  refine WL.pass (by decide) rfl rfl rfl ?_
                  refine WL.passU (by decide) rfl rfl ?_
                  refine WL.passU (by decide) rfl rfl ?_
                  refine WL.passU (by decide) rfl rfl ?_
                  refine WL.passU (by decide) rfl rfl ?_
                  refine WL.passU (by decide) rfl rfl ?_
                  refine WL.pass (by decide) rfl rfl rfl ?_
                  refine WL.op (by decide) (R.pickF rfl rfl) ?_
                  refine WL.op (by decide) (R.assign rfl) ?_
                  exact WL.cutEnd [11, 13, 14] ⟨rfl, by rw [show wantB S T group = false from by simp [wantB, *]]; rfl⟩
              · skip
                refine WL.op (by decide) (R.pickT rfl rfl) ?_
                refine WL.op (by decide) (R.move rfl) ?_
                refine WL.pass (by decide) rfl rfl rfl ?_
                refine WL.pass (by decide) rfl rfl rfl ?_
                refine WL.pass (by decide) rfl rfl rfl ?_
                refine WL.pass (by decide) rfl rfl rfl ?_
                refine WL.pass (by decide) rfl rfl rfl ?_
                refine WL.op (by decide) (R.pickF rfl rfl) ?_
                refine WL.op (by decide) (R.move rfl) ?_
                refine WL.pass (by decide) rfl rfl rfl ?_
                refine WL.pass (by decide) rfl rfl rfl ?_
                refine WL.passU (by decide) rfl rfl ?_
                refine WL.passU (by decide) rfl rfl ?_
                refine WL.passU (by decide) rfl rfl ?_
                refine WL.passU (by decide) rfl rfl ?_
                refine WL.passU (by decide) rfl rfl ?_
                refine WL.pass (by decide) rfl rfl rfl ?_
                refine WL.op (by decide) (R.pickF rfl rfl) ?_
                refine WL.op (by decide) (R.assign rfl) ?_
                exact WL.cutEnd [11, 13, 14] ⟨rfl, by rw [show wantB S T group = false from by simp [wantB, *]]; rfl⟩
            · skip
              refine WL.op (by decide) (R.pickT rfl rfl) ?_
              refine WL.op (by decide) (R.move rfl) ?_
              refine WL.pass (by decide) rfl rfl rfl ?_
              refine WL.pass (by decide) rfl rfl rfl ?_
              refine WL.pass (by decide) rfl rfl rfl ?_
              refine WL.pass (by decide) rfl rfl rfl ?_
              refine WL.pass (by decide) rfl rfl rfl ?_
              refine WL.op (by decide) (R.pickF rfl rfl) ?_
              refine WL.op (by decide) (R.move rfl) ?_
              refine WL.pass (by decide) rfl rfl rfl ?_
              refine WL.pass (by decide) rfl rfl rfl ?_
              refine WL.pass (by decide) rfl rfl rfl ?_
              refine WL.pass (by decide) rfl rfl rfl ?_
              refine WL.pass (by decide) rfl rfl rfl ?_
              refine WL.op (by decide) (R.pickF rfl rfl) ?_
              refine WL.op (by decide) (R.move rfl) ?_
              refine WL.pass (by decide) rfl rfl rfl ?_
              refine WL.pass (by decide) rfl rfl rfl ?_
              refine WL.passU (by decide) rfl rfl ?_
              refine WL.passU (by decide) rfl rfl ?_
              refine WL.passU (by decide) rfl rfl ?_
              refine WL.passU (by decide) rfl rfl ?_
              refine WL.passU (by decide) rfl rfl ?_
              refine WL.pass (by decide) rfl rfl rfl ?_
              refine WL.op (by decide) (R.pickF rfl rfl) ?_
              refine WL.op (by decide) (R.assign rfl) ?_
              exact WL.cutEnd [11, 13, 14] ⟨rfl, by rw [show wantB S T group = false from by simp [wantB, *]]; rfl⟩
          · skip
            refine WL.op (by decide) (R.pickT rfl rfl) ?_
            refine WL.op (by decide) (R.move rfl) ?_
            refine WL.pass (by decide) rfl rfl rfl ?_
            refine WL.pass (by decide) rfl rfl rfl ?_
            refine WL.pass (by decide) rfl rfl rfl ?_
            refine WL.pass (by decide) rfl rfl rfl ?_
            refine WL.pass (by decide) rfl rfl rfl ?_
            refine WL.op (by decide) (R.pickF rfl rfl) ?_
            refine WL.op (by decide) (R.move rfl) ?_
            refine WL.pass (by decide) rfl rfl rfl ?_
            refine WL.pass (by decide) rfl rfl rfl ?_
            refine WL.pass (by decide) rfl rfl rfl ?_
            refine WL.pass (by decide) rfl rfl rfl ?_
            refine WL.pass (by decide) rfl rfl rfl ?_
            refine WL.op (by decide) (R.pickF rfl rfl) ?_
            refine WL.op (by decide) (R.move rfl) ?_
            refine WL.pass (by decide) rfl rfl rfl ?_
            refine WL.pass (by decide) rfl rfl rfl ?_
            refine WL.pass (by decide) rfl rfl rfl ?_
            refine WL.pass (by decide) rfl rfl rfl ?_
            refine WL.pass (by decide) rfl rfl rfl ?_
            refine WL.op (by decide) (R.pickF rfl rfl) ?_
            refine WL.op (by decide) (R.move rfl) ?_
            refine WL.pass (by decide) rfl rfl rfl ?_
            refine WL.pass (by decide) rfl rfl rfl ?_
            refine WL.passU (by decide) rfl rfl ?_
            refine WL.passU (by decide) rfl rfl ?_
            refine WL.passU (by decide) rfl rfl ?_
            refine WL.passU (by decide) rfl rfl ?_
            refine WL.passU (by decide) rfl rfl ?_
            refine WL.pass (by decide) rfl rfl rfl ?_
            refine WL.op (by decide) (R.pickF rfl rfl) ?_
            refine WL.op (by decide) (R.assign rfl) ?_
            exact WL.cutEnd [11, 13, 14] ⟨rfl, by rw [show wantB S T group = false from by simp [wantB, *]]; rfl⟩
        · skip
          refine WL.op (by decide) (R.move rfl) ?_
          refine WL.pass (by decide) rfl rfl rfl ?_
          refine WL.pass (by decide) rfl rfl rfl ?_
          refine WL.pass (by decide) rfl rfl rfl ?_
          refine WL.pass (by decide) rfl rfl rfl ?_
          refine WL.pass (by decide) rfl rfl rfl ?_
          refine WL.op (by decide) (R.pickF rfl rfl) ?_
          refine WL.op (by decide) (R.move rfl) ?_
          refine WL.pass (by decide) rfl rfl rfl ?_
          refine WL.pass (by decide) rfl rfl rfl ?_
          refine WL.pass (by decide) rfl rfl rfl ?_
          refine WL.pass (by decide) rfl rfl rfl ?_
          refine WL.pass (by decide) rfl rfl rfl ?_
          refine WL.op (by decide) (R.pickF rfl rfl) ?_
          refine WL.op (by decide) (R.move rfl) ?_
          refine WL.pass (by decide) rfl rfl rfl ?_
          refine WL.pass (by decide) rfl rfl rfl ?_
          refine WL.pass (by decide) rfl rfl rfl ?_
          refine WL.pass (by decide) rfl rfl rfl ?_
          refine WL.pass (by decide) rfl rfl rfl ?_
          refine WL.op (by decide) (R.pickF rfl rfl) ?_
          refine WL.op (by decide) (R.move rfl) ?_
          refine WL.pass (by decide) rfl rfl rfl ?_
          refine WL.pass (by decide) rfl rfl rfl ?_
          refine WL.pass (by decide) rfl rfl rfl ?_
          refine WL.pass (by decide) rfl rfl rfl ?_
          refine WL.pass (by decide) rfl rfl rfl ?_
          refine WL.op (by decide) (R.pickF rfl rfl) ?_
          refine WL.op (by decide) (R.move rfl) ?_
          refine WL.pass (by decide) rfl rfl rfl ?_
          refine WL.pass (by decide) rfl rfl rfl ?_
          refine WL.passU (by decide) rfl rfl ?_
          refine WL.passU (by decide) rfl rfl ?_
          refine WL.passU (by decide) rfl rfl ?_
          refine WL.passU (by decide) rfl rfl ?_
          refine WL.passU (by decide) rfl rfl ?_
          refine WL.pass (by decide) rfl rfl rfl ?_
          refine WL.op (by decide) (R.pickF rfl rfl) ?_
          refine WL.op (by decide) (R.assign rfl) ?_
          exact WL.cutEnd [11, 13, 14] ⟨rfl, by rw [show wantB S T group = false from by simp [wantB, *]]; rfl⟩
      · rintro le w' ⟨rfl, rfl⟩
        refine WL.next ?_
        refine CW.rseq ?_
        refine WL.op (by decide) (R.move rfl) ?_
        refine WL.op (by decide) (R.move rfl) ?_
        refine WL.gop (by decide) rfl rfl rfl (R.move rfl) ?_
        refine WL.gop (by decide) rfl rfl rfl (R.move rfl) ?_
        refine WL.gop (by decide) rfl rfl rfl (R.eqlBT rfl rfl (others_no hkS hkT hpB)) ?_
        refine WL.op (by decide) (R.pickT rfl rfl) ?_
        refine WL.op (by decide) (R.assign rfl) ?_
        refine WL.next ?_
        refine CW.ret ?_
        exact EW.ret1 (.inl rfl) rfl rfl ⟨rfl, hC⟩
  · skip
    refine ⟨_, rfl, ?_⟩
    exact absurd hpA (by rw [pass_self]; simp)
end Go.Proofs.YthcpjcgjmdfpjaaDoor

namespace Go.Proofs.YthcpjcgjmdfpjaaDoor
open Go Go.ChangeShapes Go.WideShapes Go.ChangeAt Go.RowKit
set_option maxRecDepth 100000

theorem transOthers_lifted (os : Os) (started : os.Started) (H : Type) (enc : TypeId × Value → H) :
    ReturnsInHanded {} Tryd.checked os 8 .any (fun w args => (Rows.transOthersSpec.pre enc Tryd.prog Tryd.f8 [] false w args ∧ laidMetH Tryd.prog laidL w) ∧ sizedMet enc Tryd.prog Tryd.f8 (OpenSpec.ofChange Rows.transOthersSpec) false w args)
      (Rows.transOthersSpec.post enc Tryd.prog Tryd.f8 false true false false) := by
  refine law_lifted (s := Rows.transOthersSpec) started Tryd.func8 (by kernel_rfl) rfl (by kernel_rfl) (by kernel_rfl) ?_ ?_
    (ChangeSpec.witness_shaped (enc := enc) (C := Tryd.checked) (os := os) (X := fun w _ => laidMetH Tryd.prog laidL w) false (World.laidAll Tryd.prog os laidL) #[.int .i64 0, .int .i64 0, .bool false] 8 (World.laidAll_os _ _ _)
      (World.shaped_of_ZipB (by kernel_rfl) (by kernel_rfl)) (by kernel_rfl) (by kernel_rfl) (by kernel_rfl)
      (by rw [MakeChecks.laidMetH_plain _ _ _ (by kernel_rfl)]; exact laidMet_laidAll _ (by kernel_rfl) (by kernel_rfl))) ?_
  · intro ds hl
    rw [show Tryd.f8.params.size = 3 by rw [Tryd.params8]; rfl] at hl
    obtain ⟨d0, d1, d2, rfl⟩ := list3 hl
    rfl
  · intro W vs ds ps h
    exact trodAll_len h
  intro W base args ds p hval hA hlt hw hG
  rw [Tryd.params8] at hA hval hw
  obtain ⟨v0, v1, v2, d0, d1, d2, p0, p1, p2, rfl, rfl, rfl, h0, h1, h2⟩ := trodAll_three hA
  obtain ⟨n, rfl, rfl, rfl, _⟩ := open_int Tryd.underlying3 (hval 0 3 v0 rfl rfl) h0
  obtain ⟨m, rfl, rfl, rfl, _⟩ := open_int Tryd.underlying3 (hval 1 3 v1 rfl rfl) h1
  obtain ⟨b2, rfl, rfl, rfl⟩ := open_bool Tryd.underlying4 (hval 2 4 v2 rfl rfl) h2
  exact transOthers_any n m b2 W hG

theorem transOthers_joined : joinedFacts Tryd.prog 8 Tryd.f8 Rows.transOthersSpec Rows.transOthersRow = true :=
  joined_of seat_mayEnter seat_lifts seat_make rfl rfl rfl rfl (by kernel_rfl) (by kernel_rfl) (by kernel_rfl) (by kernel_rfl) (by kernel_rfl) (by kernel_rfl) (by kernel_rfl) (by kernel_rfl) (by kernel_rfl) (by kernel_rfl) (by kernel_rfl) (by kernel_rfl) (by kernel_rfl) (by kernel_rfl) (by kernel_rfl) (by kernel_rfl) (by kernel_rfl) (by kernel_rfl) (by kernel_rfl) (by kernel_rfl) (by kernel_rfl) (by kernel_rfl) (by kernel_rfl) (by kernel_rfl) (by kernel_rfl) (by kernel_rfl) (by kernel_rfl) (by kernel_rfl)
theorem transOthers_holds : Rows.TransOthersSaid :=
  OpenClaim.holds_of_wide 8 Tryd.f8 rfl rfl rfl rfl rfl rfl rfl ⟨rfl, rfl, rfl, rfl, rfl⟩ rfl rfl rfl rfl rfl (by kernel_rfl) Tryd.func8 transOthers_joined
    (of_decide_eq_true (by kernel_rfl)) (by unfold Func.isWrapper; first | (rw [if_pos (by decide +kernel)]; kernel_rfl) | (rw [if_neg (by decide +kernel)]; exact ⟨rfl, rfl⟩))
    (fun os started H enc _ => transOthers_lifted os started H enc)
theorem transOthers_card : Rows.TransOthersCardSaid :=
  Claim7.holds_tied_plain_at .later [] [.data] true (true, "6afa14409c1fcf784e159d3dd9af9e0af6fc07a3d3e06aa2c8b4c577951ca517") false transOthers_holds (fun _ h => by cases h) (by kernel_rfl) (fun _ h => by cases h) transOthers_row_tie rfl ⟨rfl, rfl⟩ seat_main rfl
    (fun f fn hf hfn => by
      obtain rfl : f = 8 := Option.some.inj ((show Tryd.prog.funcNamed "nomenclator/nomenclatorlaw13.TransOthers" = some 8 by kernel_rfl).symm.trans hf) |>.symm
      obtain rfl : fn = Tryd.f8 := (Option.some.inj (Tryd.func8.symm.trans hfn)).symm
      exact ⟨by kernel_rfl, fun j t ht => by
        rw [Tryd.params8] at ht
        have hm : t ∈ [3, 3, 4] := by simpa using Array.mem_of_getElem? ht
        have hall : ([3, 3, 4].all fun u => !Tryd.prog.wantsStandIn u) = true := by kernel_rfl
        exact (show Tryd.prog.wantsStandIn t = false by simpa using List.all_eq_true.1 hall t hm)⟩)
    (by kernel_rfl)
end Go.Proofs.YthcpjcgjmdfpjaaDoor
