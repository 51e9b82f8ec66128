/- TransMatches: the statement TransMatches is proved (its card); no conditions. Here: Matches, TransMatchesCard. -/
import Derived.Test.YthcpjcgjmdfpjaaDoorWordsTrans
import Derived.Test.YthcpjcgjmdfpjaaDoorCoreB
import Derived.Test.YthcpjcgjmdfpjaaDoorCoreE
namespace Go.Proofs.YthcpjcgjmdfpjaaDoor
open Go Go.RowKit
set_option maxRecDepth 100000
set_option maxHeartbeats 4000000

theorem xor1_lt {N : Nat} (h : N < 65536) : N ^^^ 1 < 65536 := Nat.xor_lt_two_pow (n := 16) h (by decide)
theorem xor1_ne (N : Nat) : N ^^^ 1 ≠ N := by
  intro h
  have h2 : N ^^^ (N ^^^ 1) = N ^^^ N := by rw [h]
  rw [← Nat.xor_assoc, Nat.xor_self, Nat.zero_xor] at h2
  cases h2
theorem binOp_xor1 (t : TypeId) {N : Nat} (hN : N < 65536) : binOp .xor t (.int .i64 (N : Int)) (.int .i64 1) = pure (.int .i64 ((N ^^^ 1 : Nat) : Int)) := by
  have h1 := xor1_lt hN
  have e1 : (BitVec.ofInt IntKind.i64.bits (N : Int)).toNat = N := by
    show (BitVec.ofInt 64 (N : Int)).toNat = _
    rw [BitVec.toNat_ofInt]
    have : (N : Int) % ((2 ^ 64 : Nat) : Int) = (N : Int) := Int.emod_eq_of_lt (by omega) (by omega)
    rw [this, Int.toNat_natCast]
  have e2 : (BitVec.ofInt IntKind.i64.bits 1).toNat = 1 := by decide
  simp only [binOp, Op.intBits, ne_eq, not_true, ite_false]
  have e : (BitVec.ofInt IntKind.i64.bits (N : Int) ^^^ BitVec.ofInt IntKind.i64.bits 1).toNat = N ^^^ 1 := by rw [BitVec.toNat_xor, e1, e2]
  rw [e, IntWalk.i64_in _ (by omega)]
theorem R.xor1 {l : Env} {w : World} {x : Operand} {t ty : TypeId} {P : Program} {i : Int} {N : Nat} (hx : ev l x = some (.int .i64 i)) (hN : i = (N : Int)) (h : N < 65536) : Runs P l (.binOp .xor t x (.const (.int .i64 1)) ty) w (.int .i64 ((N ^^^ 1 : Nat) : Int)) w := by
  subst hN
  exact R.bin hx rfl (binOp_xor1 t h)
theorem id_ok {T : Tr} {N : Nat} {i1 : Int} {o1 : Bool} (h : i1 = (if o1 then ((N ^^^ 1 : Nat) : Int) else T.id)) (hT : 0 ≤ T.id ∧ T.id ≤ 65535) (_hN : T.id = (N : Int)) (h16 : N < 65536) : 0 ≤ i1 ∧ i1 ≤ 65535 := by
  have := xor1_lt h16
  cases o1
  · rw [h]; simpa using hT
  · have : i1 = ((N ^^^ 1 : Nat) : Int) := by simpa using h
    omega
theorem ty_ok {T : Tr} {t1 : Int} {o2 : Bool} (h : t1 = (if o2 then T.qtype + 1 else T.qtype)) (hT : 1 ≤ T.qtype ∧ T.qtype ≤ 2) : 1 ≤ t1 ∧ t1 ≤ 65535 := by
  cases o2
  · have : t1 = T.qtype := by simpa using h
    omega
  · have : t1 = T.qtype + 1 := by simpa using h
    omega
theorem match_any2 {t : Tr} {link gen : Int} {frm : List UInt8} {port : Int} {base : Nat} {M : Msg} {e : Ending} {w : World} (h : MatchRes t link gen frm port base (some M) e w) :
    ∃ X va vb, e = .returned (.tuple #[.agg (X.cells va vb).toArray, .bool (passT t link gen frm port && ansT t M)]) ∧ RSl w va X.ans ∧ RSl w vb X.auth ∧ (∀ k, va.ownBlock = some k → base ≤ k) ∧ (∀ k, vb.ownBlock = some k → base ≤ k) ∧ (passT t link gen frm port = true → X = M) := by
  rcases match_two h with ⟨hp, va, vb, rfl, h1, h2, h3, h4⟩ | ⟨hp, rfl⟩
  · exact ⟨M, va, vb, by rw [hp]; rfl, h1, h2, h3, h4, fun _ => rfl⟩
  · exact ⟨msg0, .slice none 0 0, .slice none 0 0, by rw [hp]; rfl, RSl.nil w, RSl.nil w, (fun k e => by cases e), (fun k e => by cases e), fun h => by rw [hp] at h; cases h⟩
theorem dec_not {a b : Int} {o : Bool} {c : Int} (h : a = (if o then b else c)) (hne : b ≠ c) : decide (a = c) = !o := by
  subst h
  cases o <;> simp [hne]
theorem matches_ok {T : Tr} {n : Int} {group : Bool} {N : Nat} {i1 t1 l1 g1 p1 : Int} {f1 : List UInt8} {o0 o1 o2 o3 o4 o5 o6 : Bool} (hk : TOk T n group) (hI : i1 = (if o1 then ((N ^^^ 1 : Nat) : Int) else T.id)) (hT1 : t1 = (if o2 then T.qtype + 1 else T.qtype)) (hL1 : l1 = (if o3 then T.link + 1 else T.link)) (hG1 : g1 = (if o4 then T.gen + 1 else T.gen)) (hF1 : f1 = (if o5 then T.to.set 0 1 else T.to)) (hP1 : p1 = (if o6 then T.port + 1 else T.port)) (hN : T.id = (N : Int)) :
    (passT T l1 g1 f1 p1 && ansT T ⟨i1, !o0, false, false, 0, T.qname, t1, [], []⟩) = (!o0 && !o1 && !o2 && !o3 && !o4 && (!o5 || group) && !o6) := by
  have d1 := dec_not hI (by have := xor1_ne N; omega)
  have d2 := dec_not hT1 (by omega)
  have d3 := dec_not hL1 (by omega)
  have d4 := dec_not hG1 (by omega)
  have d6 := dec_not hP1 (by omega)
  have hto : T.to.set 0 1 ≠ T.to := by rw [hk.to]; simp [addrN]
  have d5 : decide (f1 = T.to) = !o5 := by
    subst hF1
    cases o5 <;> simp [hto]
  unfold passT ansT
  simp only [d1, d2, d3, d4, d5, d6, hk.group, decide_true]
  cases o0 <;> cases o1 <;> cases o2 <;> cases o3 <;> cases o4 <;> cases o5 <;> cases o6 <;> cases group <;> rfl
theorem transMatches_any (n : Int) (group : Bool) (o0 o1 o2 o3 o4 o5 o6 : Bool) (w0 : World) (hG : Glob w0) : Calls Tryd.prog 3 #[.int .i64 n, .bool group, .agg #[.bool o0, .bool o1, .bool o2, .bool o3, .bool o4, .bool o5, .bool o6]] w0 fun e w' => e = .returned (.bool true) ∧ Chg (fun _ => False) w0 w' := by
  have hC := Chg.refl (fun _ => False) w0
  have hz16 : zero16.length = 16 := rfl
  refine calls_cw (args := [.int .i64 n, .bool group, .agg #[.bool o0, .bool o1, .bool o2, .bool o3, .bool o4, .bool o5, .bool o6]]) Tryd.func3 rfl rfl ?_
  show CW _ _ _ 128 [(0, .int .i64 n), (1, .bool group), (2, .agg #[.bool o0, .bool o1, .bool o2, .bool o3, .bool o4, .bool o5, .bool o6])] w0
  refine CW.rseq ?_
  refine WL.eff rfl (OP.box (by decide) rfl ?_)
  intro w1 hc_w1 hs_w1 hB5
  obtain ⟨b5, he_b5⟩ : ∃ b, b = w0.heap.size := ⟨_, rfl⟩
  rw [← he_b5] at hB5 ⊢
  have hB5 : w1.heap[b5]? = some (.cells #[.bool o0, .bool o1, .bool o2, .bool o3, .bool o4, .bool o5, .bool o6] 22 (0, 0)) := hB5
  have hC := hC.trans hc_w1
  have hz_w1 := hc_w1.size
  refine WL.op (by decide) (R.assign rfl) ?_
  refine WL.next ?_
  refine CW.seq ?_
  refine CW.rseq ?_
  refine WL.eff rfl (OP.call (by decide) Tryd.func21 (by kernel_rfl) (by kernel_rfl) rfl (fit13_any _ (hG.keep0 hC)) ?_)
  rintro ed w2 ⟨rfl, hc_w2⟩
  refine ⟨_, rfl, ?_⟩
  have hB5 := hc_w2.at hB5 (fun e => e)
  have hC := hC.trans hc_w2
  have hz_w2 := hc_w2.size
  refine WL.op (by decide) (R.not rfl) ?_
  refine WL.next ?_
  refine CW.condF rfl ?_
  refine CW.skip ?_
  refine EW.next ?_
  refine CW.rseq ?_
  refine WL.op (by decide) (R.move rfl) ?_
  refine WL.op (by decide) (R.move rfl) ?_
  refine WL.eff rfl (OP.call (by decide) Tryd.func22 (by kernel_rfl) (by kernel_rfl) rfl (build_any _ _ _) ?_)
  rintro ed w3 ⟨rfl, hc_w3⟩
  have hkT := buildT_ok n group
  have h16T : (buildT n group).to.length = 16 := rfl
  obtain ⟨T, hT0⟩ : ∃ T, T = buildT n group := ⟨_, rfl⟩
  rw [← hT0] at hkT h16T ⊢
  clear hT0
  refine ⟨_, rfl, ?_⟩
  have hB5 := hc_w3.at hB5 (fun e => e)
  have hC := hC.trans hc_w3
  have hz_w3 := hc_w3.size
  refine WL.eff rfl (OP.allocT (by decide) ?_)
  intro w4 hc_w4 hs_w4 hB7
  obtain ⟨b7, he_b7⟩ : ∃ b, b = w3.heap.size := ⟨_, rfl⟩
  rw [← he_b7] at hB7 ⊢
  have hB5 := hc_w4.at hB5 (fun e => e)
  have hC := hC.trans hc_w4
  have hz_w4 := hc_w4.size
  refine WL.eff rfl (OP.storeT (by assumption) (by first | rfl | assumption) rfl rfl hB7 ?_)
  intro w5 hc_w5 hs_w5 hB7
  have hB5 := hc_w5.at hB5 (fun e => by omega)
  have hC := hC.thenB hc_w5 (by omega)
  refine WL.next ?_
  refine CW.rseq ?_
  obtain ⟨N, hN⟩ : ∃ N : Nat, T.id = (N : Int) := ⟨T.id.toNat, by have := hkT.id; omega⟩
  have hN16 : N < 65536 := by have := hkT.id; omega
  refine WL.op (by decide) (FA29_4 rfl) ?_
  refine WL.op (by decide) (R.load Tryd.underlying3 rfl rfl (cell_at hB7 (Tr.at20 (by assumption)))) ?_
  refine WL.op (by decide) (R.indexArr (i := 0) Tryd.underlying22 sz4 rfl rfl rfl (by decide)) ?_
  refine WL.op (by decide) (R.load Tryd.underlying4 rfl rfl (cell_at hB5 rfl)) ?_
  refine WL.op (by decide) (R.not rfl) ?_
  refine WL.op (by decide) (FA29_0 rfl) ?_
  refine WL.op (by decide) (R.loadTQ rfl hB7) ?_
  refine WL.op (by decide) (R.build (parts := [(0, _), (1, _), (5, _)]) (vals := [(0, _), (1, _), (5, _)]) rfl (fun w => build33_015 _ _ _ _ w)) ?_
  refine WL.eff rfl (OP.allocM (by decide) ?_)
  intro w6 hc_w6 hs_w6 hB8
  obtain ⟨b8, he_b8⟩ : ∃ b, b = w5.heap.size := ⟨_, rfl⟩
  rw [← he_b8] at hB8 ⊢
  have hB5 := hc_w6.at hB5 (fun e => e)
  have hB7 := hc_w6.at hB7 (fun e => e)
  have hC := hC.trans hc_w6
  have hz_w6 := hc_w6.size
  refine WL.eff rfl (OP.storeM rfl rfl hB8 ?_)
  intro w7 hc_w7 hs_w7 hB8
  have hB5 := hc_w7.at hB5 (fun e => by omega)
  have hB7 := hc_w7.at hB7 (fun e => by omega)
  have hC := hC.thenB hc_w7 (by omega)
  refine WL.next ?_
  refine CW.cut (fun le wr => Chg (fun _ => False) w0 wr ∧ w7.heap.size ≤ wr.heap.size ∧ le = [(1, .bool group), (5, .pointer (some ⟨b5, 0, none⟩)), (7, .pointer (some ⟨b7, 0, none⟩)), (8, .pointer (some ⟨b8, 0, none⟩))] ∧ wr.heap[b5]? = some (.cells #[.bool o0, .bool o1, .bool o2, .bool o3, .bool o4, .bool o5, .bool o6] 22 (0, 0)) ∧ BT wr b7 T ∧ ∃ i1, i1 = (if o1 then ((N ^^^ 1 : Nat) : Int) else T.id) ∧ BM wr b8 ⟨i1, !o0, false, false, 0, T.qname, T.qtype, [], []⟩ (.slice none 0 0) (.slice none 0 0)) ?_ ?_
  ·
    refine CW.rseq ?_
    refine WL.op (by decide) (R.indexArr (i := 1) Tryd.underlying22 sz4 rfl rfl rfl (by decide)) ?_
    refine WL.op (by decide) (R.load Tryd.underlying4 rfl rfl (cell_at hB5 rfl)) ?_
    cases ho1 : o1
    · skip
      rw [ho1] at hB5
      refine WL.next ?_
      refine CW.condF rfl ?_
      refine CW.skip ?_
      exact EW.cutK [1, 5, 7, 8] ⟨hC, by omega, rfl, hB5, hB7, _, rfl, hB8⟩
    · skip
      rw [ho1] at hB5
      refine WL.next ?_
      refine CW.condT rfl ?_
      refine CW.region ?_
      refine WL.op (by decide) (FA33_0 rfl) ?_
      refine WL.op (by decide) (R.load Tryd.underlying3 rfl rfl (cell_at hB8 rfl)) ?_
      refine WL.op (by decide) (R.xor1 rfl hN hN16) ?_
      refine WL.op (by decide) (FA33_0 rfl) ?_
      refine WL.eff rfl (OP.storeId rfl rfl hB8 ?_)
      intro w8 hc_w8 hs_w8 hB8
      have hB5 := hc_w8.at hB5 (fun e => by omega)
      have hB7 := hc_w8.at hB7 (fun e => by omega)
      have hC := hC.thenB hc_w8 (by omega)
      refine WL.nil ?_
      exact EW.cutK [1, 5, 7, 8] ⟨hC, by omega, rfl, hB5, hB7, _, rfl, hB8⟩
  · rintro le wr5 ⟨hC, hw5, rfl, hB5, hB7, i1, hI, hB8⟩
    have hz_hC := hC.size
    refine CW.cut (fun le wr => Chg (fun _ => False) w0 wr ∧ wr5.heap.size ≤ wr.heap.size ∧ le = [(1, .bool group), (5, .pointer (some ⟨b5, 0, none⟩)), (7, .pointer (some ⟨b7, 0, none⟩)), (8, .pointer (some ⟨b8, 0, none⟩))] ∧ wr.heap[b5]? = some (.cells #[.bool o0, .bool o1, .bool o2, .bool o3, .bool o4, .bool o5, .bool o6] 22 (0, 0)) ∧ BT wr b7 T ∧ ∃ t1, t1 = (if o2 then T.qtype + 1 else T.qtype) ∧ BM wr b8 ⟨i1, !o0, false, false, 0, T.qname, t1, [], []⟩ (.slice none 0 0) (.slice none 0 0)) ?_ ?_
    ·
      refine CW.rseq ?_
      refine WL.op (by decide) (R.indexArr (i := 2) Tryd.underlying22 sz4 rfl rfl rfl (by decide)) ?_
      refine WL.op (by decide) (R.load Tryd.underlying4 rfl rfl (cell_at hB5 rfl)) ?_
      cases ho2 : o2
      · skip
        rw [ho2] at hB5
        refine WL.next ?_
        refine CW.condF rfl ?_
        refine CW.skip ?_
        exact EW.cutK [1, 5, 7, 8] ⟨hC, by omega, rfl, hB5, hB7, _, rfl, hB8⟩
      · skip
        rw [ho2] at hB5
        refine WL.next ?_
        refine CW.condT rfl ?_
        refine CW.region ?_
        refine WL.op (by decide) (FA33_5 rfl) ?_
        refine WL.op (by decide) (FA25_1 rfl) ?_
        refine WL.op (by decide) (R.load Tryd.underlying3 rfl rfl (cell_at hB8 rfl)) ?_
        refine WL.op (by decide) (R.add rfl rfl (by show _ ≤ T.qtype + 1 ∧ T.qtype + 1 ≤ _; have := hkT.ty; omega)) ?_
        refine WL.op (by decide) (FA33_5 rfl) ?_
        refine WL.op (by decide) (FA25_1 rfl) ?_
        refine WL.eff rfl (OP.storeType rfl rfl hB8 ?_)
        intro w9 hc_w9 hs_w9 hB8
        have hB5 := hc_w9.at hB5 (fun e => by omega)
        have hB7 := hc_w9.at hB7 (fun e => by omega)
        have hC := hC.thenB hc_w9 (by omega)
        refine WL.nil ?_
        exact EW.cutK [1, 5, 7, 8] ⟨hC, by omega, rfl, hB5, hB7, _, rfl, hB8⟩
    · rintro le wr7 ⟨hC, hw7, rfl, hB5, hB7, t1, hT1, hB8⟩
      have hz_hC := hC.size
      refine CW.seq ?_
      have hB5_d := hB5
      have hB7_d := hB7
      have hB8_d := hB8
      refine CW.draw (fun w => w.heap[b5]? = wr7.heap[b5]? ∧ w.heap[b7]? = wr7.heap[b7]? ∧ w.heap[b8]? = wr7.heap[b8]?) (by kernel_rfl) ?_
      have hc_w10 : Chg (fun _ => False) wr7 wr7.drew := Chg.drew _ _
      obtain ⟨w10, he_w10⟩ : ∃ w, w = wr7.drew := ⟨_, rfl⟩
      rw [← he_w10] at hc_w10 ⊢
      have hB5 := hc_w10.at hB5 (fun e => e)
      have hB7 := hc_w10.at hB7 (fun e => e)
      have hB8 := hc_w10.at hB8 (fun e => e)
      have hC := hC.trans hc_w10
      have hz_w10 := hc_w10.size
      refine AH.take 0 rfl (by kernel_rfl) (by kernel_rfl) (by kernel_rfl) (fun _ _ _ _ h => h) (⟨hB5.trans hB5_d.symm, hB7.trans hB7_d.symm, hB8.trans hB8_d.symm⟩) (by decide) (fun w hS => FA29_1 rfl) ?_
      refine AH.take 1 rfl (by kernel_rfl) (by kernel_rfl) (by kernel_rfl) (fun _ _ _ _ h => h) (⟨hB5.trans hB5_d.symm, hB7.trans hB7_d.symm, hB8.trans hB8_d.symm⟩) (by decide) (fun w hS => R.load Tryd.underlying3 rfl rfl (cell_at (hS.2.1.trans hB7_d) rfl)) ?_
      refine AH.take 2 rfl (by kernel_rfl) (by kernel_rfl) (by kernel_rfl) (fun _ _ _ _ h => h) (⟨hB5.trans hB5_d.symm, hB7.trans hB7_d.symm, hB8.trans hB8_d.symm⟩) (by decide) (fun w hS => FA29_2 rfl) ?_
      refine AH.take 3 rfl (by kernel_rfl) (by kernel_rfl) (by kernel_rfl) (fun _ _ _ _ h => h) (⟨hB5.trans hB5_d.symm, hB7.trans hB7_d.symm, hB8.trans hB8_d.symm⟩) (by decide) (fun w hS => R.load Tryd.underlying3 rfl rfl (cell_at (hS.2.1.trans hB7_d) rfl)) ?_
      refine AH.take 4 rfl (by kernel_rfl) (by kernel_rfl) (by kernel_rfl) (fun _ _ _ _ h => h) (⟨hB5.trans hB5_d.symm, hB7.trans hB7_d.symm, hB8.trans hB8_d.symm⟩) (by decide) (fun w hS => FA29_3 rfl) ?_
      refine AH.take 5 rfl (by kernel_rfl) (by kernel_rfl) (by kernel_rfl) (fun _ _ _ _ h => h) (⟨hB5.trans hB5_d.symm, hB7.trans hB7_d.symm, hB8.trans hB8_d.symm⟩) (by decide) (fun w hS => R.loadTTo (by assumption) rfl (hS.2.1.trans hB7_d)) ?_
      refine AH.take 6 rfl (by kernel_rfl) (by kernel_rfl) (by kernel_rfl) (fun _ _ _ _ h => h) (⟨hB5.trans hB5_d.symm, hB7.trans hB7_d.symm, hB8.trans hB8_d.symm⟩) (by decide) (fun w hS => FA29_5 rfl) ?_
      refine AH.take 7 rfl (by kernel_rfl) (by kernel_rfl) (by kernel_rfl) (fun _ _ _ _ h => h) (⟨hB5.trans hB5_d.symm, hB7.trans hB7_d.symm, hB8.trans hB8_d.symm⟩) (by decide) (fun w hS => R.load Tryd.underlying3 rfl rfl (cell_at (hS.2.1.trans hB7_d) (Tr.at21 (by assumption)))) ?_
      refine AH.eff 8 (by kernel_rfl) rfl rfl (OP.allocA (by decide) ?_)
      intro w11 hc_w11 hs_w11 hB11
      obtain ⟨b11, he_b11⟩ : ∃ b, b = w10.heap.size := ⟨_, rfl⟩
      rw [← he_b11] at hB11 ⊢
      have hB5 := hc_w11.at hB5 (fun e => e)
      have hB7 := hc_w11.at hB7 (fun e => e)
      have hB8 := hc_w11.at hB8 (fun e => e)
      have hC := hC.trans hc_w11
      have hz_w11 := hc_w11.size
      refine ⟨⟨hB5.trans hB5_d.symm, hB7.trans hB7_d.symm, hB8.trans hB8_d.symm⟩, ?_⟩
      refine AH.take 9 rfl (by kernel_rfl) (by kernel_rfl) (by kernel_rfl) (fun _ _ _ _ h => h) (⟨hB5.trans hB5_d.symm, hB7.trans hB7_d.symm, hB8.trans hB8_d.symm⟩) (by decide) (fun w hS => R.assign rfl) ?_
      refine AH.take 10 rfl (by kernel_rfl) (by kernel_rfl) (by kernel_rfl) (fun _ _ _ _ h => h) (⟨hB5.trans hB5_d.symm, hB7.trans hB7_d.symm, hB8.trans hB8_d.symm⟩) (by decide) (fun w hS => R.assign rfl) ?_
      refine AH.eff 11 (by kernel_rfl) rfl rfl (OP.storeA (by assumption) (by first | rfl | assumption) rfl rfl hB11 ?_)
      intro w12 hc_w12 hs_w12 hB11
      have hB5 := hc_w12.at hB5 (fun e => by omega)
      have hB7 := hc_w12.at hB7 (fun e => by omega)
      have hB8 := hc_w12.at hB8 (fun e => by omega)
      have hC := hC.thenB hc_w12 (by omega)
      refine ⟨⟨hB5.trans hB5_d.symm, hB7.trans hB7_d.symm, hB8.trans hB8_d.symm⟩, ?_⟩
      refine AH.take 12 rfl (by kernel_rfl) (by kernel_rfl) (by kernel_rfl) (fun _ _ _ _ h => h) (⟨hB5.trans hB5_d.symm, hB7.trans hB7_d.symm, hB8.trans hB8_d.symm⟩) (by decide) (fun w hS => R.assign rfl) ?_
      refine AH.done (by kernel_rfl) ?_
      refine EW.next ?_
      refine CW.cut (fun le w' => w12 = w' ∧ ∃ l1, l1 = (if o3 then T.link + 1 else T.link) ∧ le = [(1, .bool group), (5, .pointer (some ⟨b5, 0, none⟩)), (7, .pointer (some ⟨b7, 0, none⟩)), (8, .pointer (some ⟨b8, 0, none⟩)), (9, .int .i64 l1), (10, .int .i64 T.gen), (11, .pointer (some ⟨b11, 0, none⟩)), (12, .int .i64 T.port)]) ?_ ?_
      ·
        refine CW.rseq ?_
        refine WL.op (by decide) (R.indexArr (i := 3) Tryd.underlying22 sz4 rfl rfl rfl (by decide)) ?_
        refine WL.op (by decide) (R.load Tryd.underlying4 rfl rfl (cell_at hB5 rfl)) ?_
        cases ho3 : o3
        · skip
          rw [ho3] at hB5
          refine WL.next ?_
          refine CW.condF rfl ?_
          refine CW.skip ?_
          exact EW.cutK [1, 5, 7, 8, 9, 10, 11, 12] ⟨rfl, _, rfl, rfl⟩
        · skip
          rw [ho3] at hB5
          refine WL.next ?_
          refine CW.condT rfl ?_
          refine CW.region ?_
          refine WL.op (by decide) (R.move rfl) ?_
          refine WL.op (by decide) (R.add rfl rfl (by have := hkT.link; omega)) ?_
          refine WL.op (by decide) (R.assign rfl) ?_
          refine WL.nil ?_
          exact EW.cutK [1, 5, 7, 8, 9, 10, 11, 12] ⟨rfl, _, rfl, rfl⟩
      · rintro le w' ⟨rfl, l1, hL1, rfl⟩
        refine CW.cut (fun le w' => w12 = w' ∧ ∃ g1, g1 = (if o4 then T.gen + 1 else T.gen) ∧ le = [(1, .bool group), (5, .pointer (some ⟨b5, 0, none⟩)), (7, .pointer (some ⟨b7, 0, none⟩)), (8, .pointer (some ⟨b8, 0, none⟩)), (9, .int .i64 l1), (10, .int .i64 g1), (11, .pointer (some ⟨b11, 0, none⟩)), (12, .int .i64 T.port)]) ?_ ?_
        ·
          refine CW.rseq ?_
          refine WL.op (by decide) (R.indexArr (i := 4) Tryd.underlying22 sz4 rfl rfl rfl (by decide)) ?_
          refine WL.op (by decide) (R.load Tryd.underlying4 rfl rfl (cell_at hB5 rfl)) ?_
          cases ho4 : o4
          · skip
            rw [ho4] at hB5
            refine WL.next ?_
            refine CW.condF rfl ?_
            refine CW.skip ?_
            exact EW.cutK [1, 5, 7, 8, 9, 10, 11, 12] ⟨rfl, _, rfl, rfl⟩
          · skip
            rw [ho4] at hB5
            refine WL.next ?_
            refine CW.condT rfl ?_
            refine CW.region ?_
            refine WL.op (by decide) (R.move rfl) ?_
            refine WL.op (by decide) (R.add rfl rfl (by have := hkT.gen; omega)) ?_
            refine WL.op (by decide) (R.assign rfl) ?_
            refine WL.nil ?_
            exact EW.cutK [1, 5, 7, 8, 9, 10, 11, 12] ⟨rfl, _, rfl, rfl⟩
        · rintro le w' ⟨rfl, g1, hG1, rfl⟩
          refine CW.cut (fun le wr => Chg (fun _ => False) w0 wr ∧ w12.heap.size ≤ wr.heap.size ∧ le = [(1, .bool group), (5, .pointer (some ⟨b5, 0, none⟩)), (7, .pointer (some ⟨b7, 0, none⟩)), (8, .pointer (some ⟨b8, 0, none⟩)), (9, .int .i64 l1), (10, .int .i64 g1), (11, .pointer (some ⟨b11, 0, none⟩)), (12, .int .i64 T.port)] ∧ wr.heap[b5]? = some (.cells #[.bool o0, .bool o1, .bool o2, .bool o3, .bool o4, .bool o5, .bool o6] 22 (0, 0)) ∧ BT wr b7 T ∧ BM wr b8 ⟨i1, !o0, false, false, 0, T.qname, t1, [], []⟩ (.slice none 0 0) (.slice none 0 0) ∧ ∃ f1, f1 = (if o5 then T.to.set 0 1 else T.to) ∧ BA wr b11 f1) ?_ ?_
          ·
            refine CW.rseq ?_
            refine WL.op (by decide) (R.indexArr (i := 5) Tryd.underlying22 sz4 rfl rfl rfl (by decide)) ?_
            refine WL.op (by decide) (R.load Tryd.underlying4 rfl rfl (cell_at hB5 rfl)) ?_
            cases ho5 : o5
            · skip
              rw [ho5] at hB5
              refine WL.next ?_
              refine CW.condF rfl ?_
              refine CW.skip ?_
              exact EW.cutK [1, 5, 7, 8, 9, 10, 11, 12] ⟨hC, by omega, rfl, hB5, hB7, hB8, _, rfl, hB11⟩
            · skip
              rw [ho5] at hB5
              refine WL.next ?_
              refine CW.condT rfl ?_
              refine CW.region ?_
              refine WL.op (by decide) (R.indexArr (i := 0) Tryd.underlying27 sz5 rfl rfl rfl (by decide)) ?_
              refine WL.op (by decide) (R.load (v := u8v 0) Tryd.underlying5 rfl rfl (cell_at hB11 (by rw [hkT.to]; rfl))) ?_
              refine WL.op (by decide) (R.addu8 rfl rfl (by decide)) ?_
              refine WL.op (by decide) (R.indexArr (i := 0) Tryd.underlying27 sz5 rfl rfl rfl (by decide)) ?_
              refine WL.eff rfl (OP.storeA1 (i := 0) (c := 1) (by rw [h16T]; decide) rfl rfl hB11 ?_)
              intro w13 hc_w13 hs_w13 hB11
              have hB5 := hc_w13.at hB5 (fun e => by omega)
              have hB7 := hc_w13.at hB7 (fun e => by omega)
              have hB8 := hc_w13.at hB8 (fun e => by omega)
              have hC := hC.thenB hc_w13 (by omega)
              refine WL.nil ?_
              exact EW.cutK [1, 5, 7, 8, 9, 10, 11, 12] ⟨hC, by omega, rfl, hB5, hB7, hB8, _, rfl, hB11⟩
          · rintro le wr14 ⟨hC, hw14, rfl, hB5, hB7, hB8, f1, hF1, hB11⟩
            have h16F : f1.length = 16 := by rw [hF1]; split <;> simp [h16T]
            have hz_hC := hC.size
            refine CW.cut (fun le w' => wr14 = w' ∧ ∃ p1, p1 = (if o6 then T.port + 1 else T.port) ∧ le = [(1, .bool group), (5, .pointer (some ⟨b5, 0, none⟩)), (7, .pointer (some ⟨b7, 0, none⟩)), (8, .pointer (some ⟨b8, 0, none⟩)), (9, .int .i64 l1), (10, .int .i64 g1), (11, .pointer (some ⟨b11, 0, none⟩)), (12, .int .i64 p1)]) ?_ ?_
            ·
              refine CW.rseq ?_
              refine WL.op (by decide) (R.indexArr (i := 6) Tryd.underlying22 sz4 rfl rfl rfl (by decide)) ?_
              refine WL.op (by decide) (R.load Tryd.underlying4 rfl rfl (cell_at hB5 rfl)) ?_
              cases ho6 : o6
              · skip
                rw [ho6] at hB5
                refine WL.next ?_
                refine CW.condF rfl ?_
                refine CW.skip ?_
                exact EW.cutK [1, 5, 7, 8, 9, 10, 11, 12] ⟨rfl, _, rfl, rfl⟩
              · skip
                rw [ho6] at hB5
                refine WL.next ?_
                refine CW.condT rfl ?_
                refine CW.region ?_
                refine WL.op (by decide) (R.move rfl) ?_
                refine WL.op (by decide) (R.add rfl rfl (by have := hkT.port; omega)) ?_
                refine WL.op (by decide) (R.assign rfl) ?_
                refine WL.nil ?_
                exact EW.cutK [1, 5, 7, 8, 9, 10, 11, 12] ⟨rfl, _, rfl, rfl⟩
            · rintro le w' ⟨rfl, p1, hP1, rfl⟩
              refine CW.cut (fun le wr => Chg (fun _ => False) w0 wr ∧ ∃ b13 X A1 k1 c1 A3 k3 c3 okv, le = [(1, .bool group), (5, .pointer (some ⟨b5, 0, none⟩)), (8, .pointer (some ⟨b8, 0, none⟩)), (13, .pointer (some ⟨b13, 0, none⟩)), (14, .bool okv)] ∧ wr.heap[b5]? = some (.cells #[.bool o0, .bool o1, .bool o2, .bool o3, .bool o4, .bool o5, .bool o6] 22 (0, 0)) ∧ BM wr b8 ⟨i1, !o0, false, false, 0, T.qname, t1, [], []⟩ (.slice none 0 0) (.slice none 0 0) ∧ BM wr b13 X (.slice A1 k1 c1) (.slice A3 k3 c3) ∧ RSl wr (.slice A1 k1 c1) X.ans ∧ RSl wr (.slice A3 k3 c3) X.auth ∧ okv = (passT T l1 g1 f1 p1 && ansT T ⟨i1, !o0, false, false, 0, T.qname, t1, [], []⟩) ∧ (okv = true → X = ⟨i1, !o0, false, false, 0, T.qname, t1, [], []⟩)) ?_ ?_
              ·
                have hB5_d := hB5
                have hB7_d := hB7
                have hB8_d := hB8
                have hB11_d := hB11
                refine CW.draw (fun w => w.heap[b5]? = wr14.heap[b5]? ∧ w.heap[b7]? = wr14.heap[b7]? ∧ w.heap[b8]? = wr14.heap[b8]? ∧ w.heap[b11]? = wr14.heap[b11]?) (by kernel_rfl) ?_
                have hc_w14 : Chg (fun _ => False) wr14 wr14.drew := Chg.drew _ _
                obtain ⟨w14, he_w14⟩ : ∃ w, w = wr14.drew := ⟨_, rfl⟩
                rw [← he_w14] at hc_w14 ⊢
                have hB5 := hc_w14.at hB5 (fun e => e)
                have hB7 := hc_w14.at hB7 (fun e => e)
                have hB8 := hc_w14.at hB8 (fun e => e)
                have hB11 := hc_w14.at hB11 (fun e => e)
                have hC := hC.trans hc_w14
                have hz_w14 := hc_w14.size
                refine AH.take 0 rfl (by kernel_rfl) (by kernel_rfl) (by kernel_rfl) (fun _ _ _ _ h => h) (⟨hB5.trans hB5_d.symm, hB7.trans hB7_d.symm, hB8.trans hB8_d.symm, hB11.trans hB11_d.symm⟩) (by decide) (fun w hS => R.loadT (by assumption) rfl (hS.2.1.trans hB7_d)) ?_
                refine AH.take 1 rfl (by kernel_rfl) (by kernel_rfl) (by kernel_rfl) (fun _ _ _ _ h => h) (⟨hB5.trans hB5_d.symm, hB7.trans hB7_d.symm, hB8.trans hB8_d.symm, hB11.trans hB11_d.symm⟩) (by decide) (fun w hS => R.move rfl) ?_
                refine AH.take 2 rfl (by kernel_rfl) (by kernel_rfl) (by kernel_rfl) (fun _ _ _ _ h => h) (⟨hB5.trans hB5_d.symm, hB7.trans hB7_d.symm, hB8.trans hB8_d.symm, hB11.trans hB11_d.symm⟩) (by decide) (fun w hS => R.move rfl) ?_
                refine AH.take 3 rfl (by kernel_rfl) (by kernel_rfl) (by kernel_rfl) (fun _ _ _ _ h => h) (⟨hB5.trans hB5_d.symm, hB7.trans hB7_d.symm, hB8.trans hB8_d.symm, hB11.trans hB11_d.symm⟩) (by decide) (fun w hS => R.loadA (by assumption) rfl (hS.2.2.2.trans hB11_d)) ?_
                refine AH.take 4 rfl (by kernel_rfl) (by kernel_rfl) (by kernel_rfl) (fun _ _ _ _ h => h) (⟨hB5.trans hB5_d.symm, hB7.trans hB7_d.symm, hB8.trans hB8_d.symm, hB11.trans hB11_d.symm⟩) (by decide) (fun w hS => R.move rfl) ?_
                refine AH.take 5 rfl (by kernel_rfl) (by kernel_rfl) (by kernel_rfl) (fun _ _ _ _ h => h) (⟨hB5.trans hB5_d.symm, hB7.trans hB7_d.symm, hB8.trans hB8_d.symm, hB11.trans hB11_d.symm⟩) (by decide) (fun w hS => R.loadM rfl (hS.2.2.1.trans hB8_d)) ?_
                refine AH.either 6 11 (by kernel_rfl) rfl rfl rfl rfl ?_ ?_
                · skip
                  refine (OP.call (by decide) Tryd.func24 (by kernel_rfl) (by kernel_rfl) rfl (encode_src _ _ _ ⟨_, _, rfl, (RSl.nil _), (RSl.nil _)⟩ (MBack.quest (id_ok hI hkT.id hN hN16) (ty_ok hT1 hkT.ty) hkT.nm hkT.sp)) ?_)
                  rintro ed w15 ⟨gE, ceE, bsE, rfl, hbsE, hBufE, hSrcE, hmoreE, hdecE, hblE, hgeE, hglE, hc_w15⟩
                  refine ⟨_, rfl, ?_⟩
                  have hB5 := hc_w15.at hB5 (fun e => e)
                  have hB7 := hc_w15.at hB7 (fun e => e)
                  have hB8 := hc_w15.at hB8 (fun e => e)
                  have hB11 := hc_w15.at hB11 (fun e => e)
                  have hC := hC.trans hc_w15
                  have hz_w15 := hc_w15.size
                  have hK15 : Chg (fun _ => False) w15 w15 := Chg.refl _ _
                  refine ⟨⟨hB5.trans hB5_d.symm, hB7.trans hB7_d.symm, hB8.trans hB8_d.symm, hB11.trans hB11_d.symm⟩, ?_⟩
                  refine AH.either 7 11 (by kernel_rfl) rfl rfl rfl rfl ?_ ?_
                  · skip
                    refine (OP.call (by decide) Tryd.func23 (by kernel_rfl) (by kernel_rfl) rfl (match_any _ _ _ _ _ _ _ _ _ _ h16T h16F (hSrcE.keep0 hK15) (by rintro _ _ ⟨⟩; omega) (by omega) (hG.keep0 hC)) ?_)
                    rintro ed w16 ⟨hc_w16, hres⟩
                    rw [hdecE] at hres
                    obtain ⟨X, vaD, vbD, rfl, hvaD, hvbD, hoaD, hobD, hX⟩ := match_any2 hres
                    obtain ⟨AaD, caD, rfl, _⟩ := hvaD.form
                    obtain ⟨AbD, cbD, rfl, _⟩ := hvbD.form
                    refine ⟨_, rfl, ?_⟩
                    have hB5 := hc_w16.at hB5 (fun e => e)
                    have hB7 := hc_w16.at hB7 (fun e => e)
                    have hB8 := hc_w16.at hB8 (fun e => e)
                    have hB11 := hc_w16.at hB11 (fun e => e)
                    have hC := hC.trans hc_w16
                    have hK15 := hK15.trans hc_w16
                    have hz_w16 := hc_w16.size
                    have hK16 : Chg (fun _ => False) w16 w16 := Chg.refl _ _
                    refine ⟨⟨hB5.trans hB5_d.symm, hB7.trans hB7_d.symm, hB8.trans hB8_d.symm, hB11.trans hB11_d.symm⟩, ?_⟩
                    refine AH.take 8 rfl (by kernel_rfl) (by kernel_rfl) (by kernel_rfl) (fun _ _ _ _ h => h) (⟨hB5.trans hB5_d.symm, hB7.trans hB7_d.symm, hB8.trans hB8_d.symm, hB11.trans hB11_d.symm⟩) (by decide) (fun w hS => R.move rfl) ?_
                    refine AH.take 9 rfl (by kernel_rfl) (by kernel_rfl) (by kernel_rfl) (fun _ _ _ _ h => h) (⟨hB5.trans hB5_d.symm, hB7.trans hB7_d.symm, hB8.trans hB8_d.symm, hB11.trans hB11_d.symm⟩) (by decide) (fun w hS => R.extract rfl rfl) ?_
                    refine AH.take 10 rfl (by kernel_rfl) (by kernel_rfl) (by kernel_rfl) (fun _ _ _ _ h => h) (⟨hB5.trans hB5_d.symm, hB7.trans hB7_d.symm, hB8.trans hB8_d.symm, hB11.trans hB11_d.symm⟩) (by decide) (fun w hS => R.extract rfl rfl) ?_
                    refine AH.eff 11 (by kernel_rfl) rfl rfl (OP.allocM (by decide) ?_)
                    intro w17 hc_w17 hs_w17 hB13
                    obtain ⟨b13, he_b13⟩ : ∃ b, b = w16.heap.size := ⟨_, rfl⟩
                    rw [← he_b13] at hB13 ⊢
                    have hB5 := hc_w17.at hB5 (fun e => e)
                    have hB7 := hc_w17.at hB7 (fun e => e)
                    have hB8 := hc_w17.at hB8 (fun e => e)
                    have hB11 := hc_w17.at hB11 (fun e => e)
                    have hC := hC.trans hc_w17
                    have hK15 := hK15.trans hc_w17
                    have hK16 := hK16.trans hc_w17
                    have hz_w17 := hc_w17.size
                    refine ⟨⟨hB5.trans hB5_d.symm, hB7.trans hB7_d.symm, hB8.trans hB8_d.symm, hB11.trans hB11_d.symm⟩, ?_⟩
                    refine AH.eff 12 (by kernel_rfl) rfl rfl (OP.storeM rfl rfl hB13 ?_)
                    intro w18 hc_w18 hs_w18 hB13
                    have hB5 := hc_w18.at hB5 (fun e => by omega)
                    have hB7 := hc_w18.at hB7 (fun e => by omega)
                    have hB8 := hc_w18.at hB8 (fun e => by omega)
                    have hB11 := hc_w18.at hB11 (fun e => by omega)
                    have hC := hC.thenB hc_w18 (by omega)
                    have hK15 := hK15.thenB hc_w18 (by omega)
                    have hK16 := hK16.thenB hc_w18 (by omega)
                    refine ⟨⟨hB5.trans hB5_d.symm, hB7.trans hB7_d.symm, hB8.trans hB8_d.symm, hB11.trans hB11_d.symm⟩, ?_⟩
                    refine AH.take 13 rfl (by kernel_rfl) (by kernel_rfl) (by kernel_rfl) (fun _ _ _ _ h => h) (⟨hB5.trans hB5_d.symm, hB7.trans hB7_d.symm, hB8.trans hB8_d.symm, hB11.trans hB11_d.symm⟩) (by decide) (fun w hS => R.assign rfl) ?_
                    refine AH.done (by kernel_rfl) ?_
                    exact EW.cutK [1, 5, 8, 13, 14] ⟨hC, b13, X, _, _, _, _, _, _, _, rfl, hB5, hB8, hB13, (hvaD.keep0 hK16), (hvbD.keep0 hK16), rfl, fun h => hX (by simp only [Bool.and_eq_true] at h; exact h.1)⟩
                  · skip
                    refine (OP.allocM (by decide) ?_)
                    intro w19 hc_w19 hs_w19 hB13
                    obtain ⟨b13, he_b13⟩ : ∃ b, b = w15.heap.size := ⟨_, rfl⟩
                    rw [← he_b13] at hB13 ⊢
                    have hB5 := hc_w19.at hB5 (fun e => e)
                    have hB7 := hc_w19.at hB7 (fun e => e)
                    have hB8 := hc_w19.at hB8 (fun e => e)
                    have hB11 := hc_w19.at hB11 (fun e => e)
                    have hC := hC.trans hc_w19
                    have hK15 := hK15.trans hc_w19
                    have hz_w19 := hc_w19.size
                    refine ⟨⟨hB5.trans hB5_d.symm, hB7.trans hB7_d.symm, hB8.trans hB8_d.symm, hB11.trans hB11_d.symm⟩, ?_⟩
                    refine AH.eff 7 (by kernel_rfl) rfl rfl (OP.call (by decide) Tryd.func23 (by kernel_rfl) (by kernel_rfl) rfl (match_any _ _ _ _ _ _ _ _ _ _ h16T h16F (hSrcE.keep0 hK15) (by rintro _ _ ⟨⟩; omega) (by omega) (hG.keep0 hC)) ?_)
                    rintro ed w20 ⟨hc_w20, hres⟩
                    rw [hdecE] at hres
                    obtain ⟨X, vaD, vbD, rfl, hvaD, hvbD, hoaD, hobD, hX⟩ := match_any2 hres
                    obtain ⟨AaD, caD, rfl, _⟩ := hvaD.form
                    obtain ⟨AbD, cbD, rfl, _⟩ := hvbD.form
                    refine ⟨_, rfl, ?_⟩
                    have hB5 := hc_w20.at hB5 (fun e => e)
                    have hB7 := hc_w20.at hB7 (fun e => e)
                    have hB8 := hc_w20.at hB8 (fun e => e)
                    have hB11 := hc_w20.at hB11 (fun e => e)
                    have hB13 := hc_w20.at hB13 (fun e => e)
                    have hC := hC.trans hc_w20
                    have hK15 := hK15.trans hc_w20
                    have hz_w20 := hc_w20.size
                    have hK20 : Chg (fun _ => False) w20 w20 := Chg.refl _ _
                    refine ⟨⟨hB5.trans hB5_d.symm, hB7.trans hB7_d.symm, hB8.trans hB8_d.symm, hB11.trans hB11_d.symm⟩, ?_⟩
                    refine AH.take 8 rfl (by kernel_rfl) (by kernel_rfl) (by kernel_rfl) (fun _ _ _ _ h => h) (⟨hB5.trans hB5_d.symm, hB7.trans hB7_d.symm, hB8.trans hB8_d.symm, hB11.trans hB11_d.symm⟩) (by decide) (fun w hS => R.move rfl) ?_
                    refine AH.take 9 rfl (by kernel_rfl) (by kernel_rfl) (by kernel_rfl) (fun _ _ _ _ h => h) (⟨hB5.trans hB5_d.symm, hB7.trans hB7_d.symm, hB8.trans hB8_d.symm, hB11.trans hB11_d.symm⟩) (by decide) (fun w hS => R.extract rfl rfl) ?_
                    refine AH.take 10 rfl (by kernel_rfl) (by kernel_rfl) (by kernel_rfl) (fun _ _ _ _ h => h) (⟨hB5.trans hB5_d.symm, hB7.trans hB7_d.symm, hB8.trans hB8_d.symm, hB11.trans hB11_d.symm⟩) (by decide) (fun w hS => R.extract rfl rfl) ?_
                    refine AH.eff 12 (by kernel_rfl) rfl rfl (OP.storeM rfl rfl hB13 ?_)
                    intro w21 hc_w21 hs_w21 hB13
                    have hB5 := hc_w21.at hB5 (fun e => by omega)
                    have hB7 := hc_w21.at hB7 (fun e => by omega)
                    have hB8 := hc_w21.at hB8 (fun e => by omega)
                    have hB11 := hc_w21.at hB11 (fun e => by omega)
                    have hC := hC.thenB hc_w21 (by omega)
                    have hK15 := hK15.thenB hc_w21 (by omega)
                    have hvaD := (hvaD.keep0 hK20).kept hc_w21 (fun k e1 e2 => by have := hoaD k e1; omega)
                    have hvbD := (hvbD.keep0 hK20).kept hc_w21 (fun k e1 e2 => by have := hobD k e1; omega)
                    have hK21 : Chg (fun _ => False) w21 w21 := Chg.refl _ _
                    refine ⟨⟨hB5.trans hB5_d.symm, hB7.trans hB7_d.symm, hB8.trans hB8_d.symm, hB11.trans hB11_d.symm⟩, ?_⟩
                    refine AH.take 13 rfl (by kernel_rfl) (by kernel_rfl) (by kernel_rfl) (fun _ _ _ _ h => h) (⟨hB5.trans hB5_d.symm, hB7.trans hB7_d.symm, hB8.trans hB8_d.symm, hB11.trans hB11_d.symm⟩) (by decide) (fun w hS => R.assign rfl) ?_
                    refine AH.done (by kernel_rfl) ?_
                    exact EW.cutK [1, 5, 8, 13, 14] ⟨hC, b13, X, _, _, _, _, _, _, _, rfl, hB5, hB8, hB13, (hvaD.keep0 hK21), (hvbD.keep0 hK21), rfl, fun h => hX (by simp only [Bool.and_eq_true] at h; exact h.1)⟩
                · skip
                  refine (OP.allocM (by decide) ?_)
                  intro w22 hc_w22 hs_w22 hB13
                  obtain ⟨b13, he_b13⟩ : ∃ b, b = w14.heap.size := ⟨_, rfl⟩
                  rw [← he_b13] at hB13 ⊢
                  have hB5 := hc_w22.at hB5 (fun e => e)
                  have hB7 := hc_w22.at hB7 (fun e => e)
                  have hB8 := hc_w22.at hB8 (fun e => e)
                  have hB11 := hc_w22.at hB11 (fun e => e)
                  have hC := hC.trans hc_w22
                  have hz_w22 := hc_w22.size
                  refine ⟨⟨hB5.trans hB5_d.symm, hB7.trans hB7_d.symm, hB8.trans hB8_d.symm, hB11.trans hB11_d.symm⟩, ?_⟩
                  refine AH.eff 6 (by kernel_rfl) rfl rfl (OP.call (by decide) Tryd.func24 (by kernel_rfl) (by kernel_rfl) rfl (encode_src _ _ _ ⟨_, _, rfl, (RSl.nil _), (RSl.nil _)⟩ (MBack.quest (id_ok hI hkT.id hN hN16) (ty_ok hT1 hkT.ty) hkT.nm hkT.sp)) ?_)
                  rintro ed w23 ⟨gE, ceE, bsE, rfl, hbsE, hBufE, hSrcE, hmoreE, hdecE, hblE, hgeE, hglE, hc_w23⟩
                  refine ⟨_, rfl, ?_⟩
                  have hB5 := hc_w23.at hB5 (fun e => e)
                  have hB7 := hc_w23.at hB7 (fun e => e)
                  have hB8 := hc_w23.at hB8 (fun e => e)
                  have hB11 := hc_w23.at hB11 (fun e => e)
                  have hB13 := hc_w23.at hB13 (fun e => e)
                  have hC := hC.trans hc_w23
                  have hz_w23 := hc_w23.size
                  have hK23 : Chg (fun _ => False) w23 w23 := Chg.refl _ _
                  refine ⟨⟨hB5.trans hB5_d.symm, hB7.trans hB7_d.symm, hB8.trans hB8_d.symm, hB11.trans hB11_d.symm⟩, ?_⟩
                  refine AH.eff 7 (by kernel_rfl) rfl rfl (OP.call (by decide) Tryd.func23 (by kernel_rfl) (by kernel_rfl) rfl (match_any _ _ _ _ _ _ _ _ _ _ h16T h16F (hSrcE.keep0 hK23) (by rintro _ _ ⟨⟩; omega) (by omega) (hG.keep0 hC)) ?_)
                  rintro ed w24 ⟨hc_w24, hres⟩
                  rw [hdecE] at hres
                  obtain ⟨X, vaD, vbD, rfl, hvaD, hvbD, hoaD, hobD, hX⟩ := match_any2 hres
                  obtain ⟨AaD, caD, rfl, _⟩ := hvaD.form
                  obtain ⟨AbD, cbD, rfl, _⟩ := hvbD.form
                  refine ⟨_, rfl, ?_⟩
                  have hB5 := hc_w24.at hB5 (fun e => e)
                  have hB7 := hc_w24.at hB7 (fun e => e)
                  have hB8 := hc_w24.at hB8 (fun e => e)
                  have hB11 := hc_w24.at hB11 (fun e => e)
                  have hB13 := hc_w24.at hB13 (fun e => e)
                  have hC := hC.trans hc_w24
                  have hK23 := hK23.trans hc_w24
                  have hz_w24 := hc_w24.size
                  have hK24 : Chg (fun _ => False) w24 w24 := Chg.refl _ _
                  refine ⟨⟨hB5.trans hB5_d.symm, hB7.trans hB7_d.symm, hB8.trans hB8_d.symm, hB11.trans hB11_d.symm⟩, ?_⟩
                  refine AH.take 8 rfl (by kernel_rfl) (by kernel_rfl) (by kernel_rfl) (fun _ _ _ _ h => h) (⟨hB5.trans hB5_d.symm, hB7.trans hB7_d.symm, hB8.trans hB8_d.symm, hB11.trans hB11_d.symm⟩) (by decide) (fun w hS => R.move rfl) ?_
                  refine AH.take 9 rfl (by kernel_rfl) (by kernel_rfl) (by kernel_rfl) (fun _ _ _ _ h => h) (⟨hB5.trans hB5_d.symm, hB7.trans hB7_d.symm, hB8.trans hB8_d.symm, hB11.trans hB11_d.symm⟩) (by decide) (fun w hS => R.extract rfl rfl) ?_
                  refine AH.take 10 rfl (by kernel_rfl) (by kernel_rfl) (by kernel_rfl) (fun _ _ _ _ h => h) (⟨hB5.trans hB5_d.symm, hB7.trans hB7_d.symm, hB8.trans hB8_d.symm, hB11.trans hB11_d.symm⟩) (by decide) (fun w hS => R.extract rfl rfl) ?_
                  refine AH.eff 12 (by kernel_rfl) rfl rfl (OP.storeM rfl rfl hB13 ?_)
                  intro w25 hc_w25 hs_w25 hB13
                  have hB5 := hc_w25.at hB5 (fun e => by omega)
                  have hB7 := hc_w25.at hB7 (fun e => by omega)
                  have hB8 := hc_w25.at hB8 (fun e => by omega)
                  have hB11 := hc_w25.at hB11 (fun e => by omega)
                  have hC := hC.thenB hc_w25 (by omega)
                  have hBufE := (hBufE.keep0 hK23).keepB hc_w25 (by omega)
                  have hSrcE := (hSrcE.keep0 hK23).keepB hc_w25 (by omega)
                  have hvaD := (hvaD.keep0 hK24).kept hc_w25 (fun k e1 e2 => by have := hoaD k e1; omega)
                  have hvbD := (hvbD.keep0 hK24).kept hc_w25 (fun k e1 e2 => by have := hobD k e1; omega)
                  have hK25 : Chg (fun _ => False) w25 w25 := Chg.refl _ _
                  refine ⟨⟨hB5.trans hB5_d.symm, hB7.trans hB7_d.symm, hB8.trans hB8_d.symm, hB11.trans hB11_d.symm⟩, ?_⟩
                  refine AH.take 13 rfl (by kernel_rfl) (by kernel_rfl) (by kernel_rfl) (fun _ _ _ _ h => h) (⟨hB5.trans hB5_d.symm, hB7.trans hB7_d.symm, hB8.trans hB8_d.symm, hB11.trans hB11_d.symm⟩) (by decide) (fun w hS => R.assign rfl) ?_
                  refine AH.done (by kernel_rfl) ?_
                  exact EW.cutK [1, 5, 8, 13, 14] ⟨hC, b13, X, _, _, _, _, _, _, _, rfl, hB5, hB8, hB13, (hvaD.keep0 hK25), (hvbD.keep0 hK25), rfl, fun h => hX (by simp only [Bool.and_eq_true] at h; exact h.1)⟩
              · rintro le wr18 ⟨hC, b13, X, A1, k1, c1, A3, k3, c3, okv, rfl, hB5, hB8, hB13, hvX, hvY, hokv, hX⟩
                have hKX : Chg (fun _ => False) wr18 wr18 := Chg.refl _ _
                have hz_hC := hC.size
                have hz_hKX := hKX.size
                refine CW.rseq ?_
                refine WL.cut 37 (fun le w' => wr18 = w' ∧ le = [(8, .pointer (some ⟨b8, 0, none⟩)), (13, .pointer (some ⟨b13, 0, none⟩)), (14, .bool okv), (15, .bool (!o0 && !o1 && !o2 && !o3 && !o4 && (!o5 || group) && !o6))]) ?_ ?_
                ·
                  refine WL.op (by decide) (R.indexArr (i := 0) Tryd.underlying22 sz4 rfl rfl rfl (by decide)) ?_
                  refine WL.op (by decide) (R.load Tryd.underlying4 rfl rfl (cell_at hB5 rfl)) ?_
                  cases ho0 : o0
                  · skip
                    rw [ho0] at hB5
                    refine WL.op (by decide) (R.not rfl) ?_
                    refine WL.op (by decide) (R.move rfl) ?_
                    refine WL.gop (by decide) rfl rfl rfl (R.indexArr (i := 1) Tryd.underlying22 sz4 rfl rfl rfl (by decide)) ?_
                    refine WL.gop (by decide) rfl rfl rfl (R.load Tryd.underlying4 rfl rfl (cell_at hB5 rfl)) ?_
                    cases ho1 : o1
                    · skip
                      rw [ho1] at hB5
                      refine WL.gop (by decide) rfl rfl rfl (R.not rfl) ?_
                      refine WL.op (by decide) (R.pickT rfl rfl) ?_
                      refine WL.op (by decide) (R.move rfl) ?_
                      refine WL.gop (by decide) rfl rfl rfl (R.indexArr (i := 2) Tryd.underlying22 sz4 rfl rfl rfl (by decide)) ?_
                      refine WL.gop (by decide) rfl rfl rfl (R.load Tryd.underlying4 rfl rfl (cell_at hB5 rfl)) ?_
                      cases ho2 : o2
                      · skip
                        rw [ho2] at hB5
                        refine WL.gop (by decide) rfl rfl rfl (R.not rfl) ?_
                        refine WL.op (by decide) (R.pickT rfl rfl) ?_
                        refine WL.op (by decide) (R.move rfl) ?_
                        refine WL.gop (by decide) rfl rfl rfl (R.indexArr (i := 3) Tryd.underlying22 sz4 rfl rfl rfl (by decide)) ?_
                        refine WL.gop (by decide) rfl rfl rfl (R.load Tryd.underlying4 rfl rfl (cell_at hB5 rfl)) ?_
                        cases ho3 : o3
                        · skip
                          rw [ho3] at hB5
                          refine WL.gop (by decide) rfl rfl rfl (R.not rfl) ?_
                          refine WL.op (by decide) (R.pickT rfl rfl) ?_
                          refine WL.op (by decide) (R.move rfl) ?_
                          refine WL.gop (by decide) rfl rfl rfl (R.indexArr (i := 4) Tryd.underlying22 sz4 rfl rfl rfl (by decide)) ?_
                          refine WL.gop (by decide) rfl rfl rfl (R.load Tryd.underlying4 rfl rfl (cell_at hB5 rfl)) ?_
                          cases ho4 : o4
                          · skip
                            rw [ho4] at hB5
                            refine WL.gop (by decide) rfl rfl rfl (R.not rfl) ?_
                            refine WL.op (by decide) (R.pickT rfl rfl) ?_
                            refine WL.op (by decide) (R.move rfl) ?_
                            refine WL.gop (by decide) rfl rfl rfl (R.indexArr (i := 5) Tryd.underlying22 sz4 rfl rfl rfl (by decide)) ?_
                            refine WL.gop (by decide) rfl rfl rfl (R.load Tryd.underlying4 rfl rfl (cell_at hB5 rfl)) ?_
                            cases ho5 : o5
                            · skip
                              rw [ho5] at hB5
                              refine WL.gop (by decide) rfl rfl rfl (R.not rfl) ?_
                              refine WL.gop (by decide) rfl rfl rfl (R.move rfl) ?_
                              refine WL.pass (by decide) rfl rfl rfl ?_
                              refine WL.gop (by decide) rfl rfl rfl (R.pickT rfl rfl) ?_
                              refine WL.op (by decide) (R.pickT rfl rfl) ?_
                              refine WL.op (by decide) (R.move rfl) ?_
                              refine WL.gop (by decide) rfl rfl rfl (R.indexArr (i := 6) Tryd.underlying22 sz4 rfl rfl rfl (by decide)) ?_
                              refine WL.gop (by decide) rfl rfl rfl (R.load Tryd.underlying4 rfl rfl (cell_at hB5 rfl)) ?_
                              cases ho6 : o6
                              · skip
                                rw [ho6] at hB5
                                refine WL.gop (by decide) rfl rfl rfl (R.not rfl) ?_
                                refine WL.op (by decide) (R.pickT rfl rfl) ?_
                                refine WL.op (by decide) (R.assign rfl) ?_
                                exact WL.cutEnd [8, 13, 14, 15] ⟨rfl, by simp only [Bool.not_false, Bool.and_true, Bool.true_or]; rfl⟩
                              · skip
                                rw [ho6] at hB5
                                refine WL.gop (by decide) rfl rfl rfl (R.not rfl) ?_
                                refine WL.op (by decide) (R.pickT rfl rfl) ?_
                                refine WL.op (by decide) (R.assign rfl) ?_
                                exact WL.cutEnd [8, 13, 14, 15] ⟨rfl, by simp only [Bool.not_true, Bool.not_false, Bool.and_false, Bool.and_true, Bool.true_or]; rfl⟩
                            · skip
                              rw [ho5] at hB5
                              refine WL.gop (by decide) rfl rfl rfl (R.not rfl) ?_
                              refine WL.gop (by decide) rfl rfl rfl (R.move rfl) ?_
                              refine WL.gop (by decide) rfl rfl rfl (R.move rfl) ?_
                              cases hg0 : group
                              · skip
                                skip
                                refine WL.gop (by decide) rfl rfl rfl (R.pickF rfl rfl) ?_
                                refine WL.op (by decide) (R.pickT rfl rfl) ?_
                                refine WL.op (by decide) (R.move rfl) ?_
                                refine WL.pass (by decide) rfl rfl rfl ?_
                                refine WL.pass (by decide) rfl rfl rfl ?_
                                refine WL.pass (by decide) rfl rfl rfl ?_
                                refine WL.op (by decide) (R.pickF rfl rfl) ?_
                                refine WL.op (by decide) (R.assign rfl) ?_
                                exact WL.cutEnd [8, 13, 14, 15] ⟨rfl, by simp only [Bool.not_true, Bool.not_false, Bool.false_and, Bool.and_false, Bool.and_true, Bool.or_false]; rfl⟩
                              · skip
                                skip
                                refine WL.gop (by decide) rfl rfl rfl (R.pickF rfl rfl) ?_
                                refine WL.op (by decide) (R.pickT rfl rfl) ?_
                                refine WL.op (by decide) (R.move rfl) ?_
                                refine WL.gop (by decide) rfl rfl rfl (R.indexArr (i := 6) Tryd.underlying22 sz4 rfl rfl rfl (by decide)) ?_
                                refine WL.gop (by decide) rfl rfl rfl (R.load Tryd.underlying4 rfl rfl (cell_at hB5 rfl)) ?_
                                cases ho6 : o6
                                · skip
                                  rw [ho6] at hB5
                                  refine WL.gop (by decide) rfl rfl rfl (R.not rfl) ?_
                                  refine WL.op (by decide) (R.pickT rfl rfl) ?_
                                  refine WL.op (by decide) (R.assign rfl) ?_
                                  exact WL.cutEnd [8, 13, 14, 15] ⟨rfl, by simp only [Bool.not_true, Bool.not_false, Bool.and_true, Bool.or_true]; rfl⟩
                                · skip
                                  rw [ho6] at hB5
                                  refine WL.gop (by decide) rfl rfl rfl (R.not rfl) ?_
                                  refine WL.op (by decide) (R.pickT rfl rfl) ?_
                                  refine WL.op (by decide) (R.assign rfl) ?_
                                  exact WL.cutEnd [8, 13, 14, 15] ⟨rfl, by simp only [Bool.not_true, Bool.not_false, Bool.and_false, Bool.and_true, Bool.or_true]; rfl⟩
                          · skip
                            rw [ho4] at hB5
                            refine WL.gop (by decide) rfl rfl rfl (R.not rfl) ?_
                            refine WL.op (by decide) (R.pickT rfl rfl) ?_
                            refine WL.op (by decide) (R.move rfl) ?_
                            refine WL.pass (by decide) rfl rfl rfl ?_
                            refine WL.pass (by decide) rfl rfl rfl ?_
                            refine WL.pass (by decide) rfl rfl rfl ?_
                            refine WL.pass (by decide) rfl rfl rfl ?_
                            refine WL.passU (by decide) rfl rfl ?_
                            refine WL.pass (by decide) rfl rfl rfl ?_
                            refine WL.op (by decide) (R.pickF rfl rfl) ?_
                            refine WL.op (by decide) (R.move rfl) ?_
                            refine WL.pass (by decide) rfl rfl rfl ?_
                            refine WL.pass (by decide) rfl rfl rfl ?_
                            refine WL.pass (by decide) rfl rfl rfl ?_
                            refine WL.op (by decide) (R.pickF rfl rfl) ?_
                            refine WL.op (by decide) (R.assign rfl) ?_
                            exact WL.cutEnd [8, 13, 14, 15] ⟨rfl, by simp only [Bool.not_true, Bool.not_false, Bool.false_and, Bool.and_false, Bool.and_true]; rfl⟩
                        · skip
                          rw [ho3] at hB5
                          refine WL.gop (by decide) rfl rfl rfl (R.not rfl) ?_
                          refine WL.op (by decide) (R.pickT rfl rfl) ?_
                          refine WL.op (by decide) (R.move rfl) ?_
                          refine WL.pass (by decide) rfl rfl rfl ?_
                          refine WL.pass (by decide) rfl rfl rfl ?_
                          refine WL.pass (by decide) rfl rfl rfl ?_
                          refine WL.op (by decide) (R.pickF rfl rfl) ?_
                          refine WL.op (by decide) (R.move rfl) ?_
                          refine WL.pass (by decide) rfl rfl rfl ?_
                          refine WL.pass (by decide) rfl rfl rfl ?_
                          refine WL.pass (by decide) rfl rfl rfl ?_
                          refine WL.pass (by decide) rfl rfl rfl ?_
                          refine WL.passU (by decide) rfl rfl ?_
                          refine WL.pass (by decide) rfl rfl rfl ?_
                          refine WL.op (by decide) (R.pickF rfl rfl) ?_
                          refine WL.op (by decide) (R.move rfl) ?_
                          refine WL.pass (by decide) rfl rfl rfl ?_
                          refine WL.pass (by decide) rfl rfl rfl ?_
                          refine WL.pass (by decide) rfl rfl rfl ?_
                          refine WL.op (by decide) (R.pickF rfl rfl) ?_
                          refine WL.op (by decide) (R.assign rfl) ?_
                          exact WL.cutEnd [8, 13, 14, 15] ⟨rfl, by simp only [Bool.not_true, Bool.not_false, Bool.false_and, Bool.and_false, Bool.and_true]; rfl⟩
                      · skip
                        rw [ho2] at hB5
                        refine WL.gop (by decide) rfl rfl rfl (R.not rfl) ?_
                        refine WL.op (by decide) (R.pickT rfl rfl) ?_
                        refine WL.op (by decide) (R.move rfl) ?_
                        refine WL.pass (by decide) rfl rfl rfl ?_
                        refine WL.pass (by decide) rfl rfl rfl ?_
                        refine WL.pass (by decide) rfl rfl rfl ?_
                        refine WL.op (by decide) (R.pickF rfl rfl) ?_
                        refine WL.op (by decide) (R.move rfl) ?_
                        refine WL.pass (by decide) rfl rfl rfl ?_
                        refine WL.pass (by decide) rfl rfl rfl ?_
                        refine WL.pass (by decide) rfl rfl rfl ?_
                        refine WL.op (by decide) (R.pickF rfl rfl) ?_
                        refine WL.op (by decide) (R.move rfl) ?_
                        refine WL.pass (by decide) rfl rfl rfl ?_
                        refine WL.pass (by decide) rfl rfl rfl ?_
                        refine WL.pass (by decide) rfl rfl rfl ?_
                        refine WL.pass (by decide) rfl rfl rfl ?_
                        refine WL.passU (by decide) rfl rfl ?_
                        refine WL.pass (by decide) rfl rfl rfl ?_
                        refine WL.op (by decide) (R.pickF rfl rfl) ?_
                        refine WL.op (by decide) (R.move rfl) ?_
                        refine WL.pass (by decide) rfl rfl rfl ?_
                        refine WL.pass (by decide) rfl rfl rfl ?_
                        refine WL.pass (by decide) rfl rfl rfl ?_
                        refine WL.op (by decide) (R.pickF rfl rfl) ?_
                        refine WL.op (by decide) (R.assign rfl) ?_
                        exact WL.cutEnd [8, 13, 14, 15] ⟨rfl, by simp only [Bool.not_true, Bool.not_false, Bool.false_and, Bool.and_false, Bool.and_true]; rfl⟩
                    · skip
                      rw [ho1] at hB5
                      refine WL.gop (by decide) rfl rfl rfl (R.not rfl) ?_
                      refine WL.op (by decide) (R.pickT rfl rfl) ?_
                      refine WL.op (by decide) (R.move rfl) ?_
                      refine WL.pass (by decide) rfl rfl rfl ?_
                      refine WL.pass (by decide) rfl rfl rfl ?_
                      refine WL.pass (by decide) rfl rfl rfl ?_
                      refine WL.op (by decide) (R.pickF rfl rfl) ?_
                      refine WL.op (by decide) (R.move rfl) ?_
                      refine WL.pass (by decide) rfl rfl rfl ?_
                      refine WL.pass (by decide) rfl rfl rfl ?_
                      refine WL.pass (by decide) rfl rfl rfl ?_
                      refine WL.op (by decide) (R.pickF rfl rfl) ?_
                      refine WL.op (by decide) (R.move rfl) ?_
                      refine WL.pass (by decide) rfl rfl rfl ?_
                      refine WL.pass (by decide) rfl rfl rfl ?_
                      refine WL.pass (by decide) rfl rfl rfl ?_
                      refine WL.op (by decide) (R.pickF rfl rfl) ?_
                      refine WL.op (by decide) (R.move rfl) ?_
                      refine WL.pass (by decide) rfl rfl rfl ?_
                      refine WL.pass (by decide) rfl rfl rfl ?_
                      refine WL.pass (by decide) rfl rfl rfl ?_
                      refine WL.pass (by decide) rfl rfl rfl ?_
                      refine WL.passU (by decide) rfl rfl ?_
                      refine WL.pass (by decide) rfl rfl rfl ?_
                      refine WL.op (by decide) (R.pickF rfl rfl) ?_
                      refine WL.op (by decide) (R.move rfl) ?_
                      refine WL.pass (by decide) rfl rfl rfl ?_
                      refine WL.pass (by decide) rfl rfl rfl ?_
                      refine WL.pass (by decide) rfl rfl rfl ?_
                      refine WL.op (by decide) (R.pickF rfl rfl) ?_
                      refine WL.op (by decide) (R.assign rfl) ?_
                      exact WL.cutEnd [8, 13, 14, 15] ⟨rfl, by simp only [Bool.not_true, Bool.not_false, Bool.false_and, Bool.and_false]; rfl⟩
                  · skip
                    rw [ho0] at hB5
                    refine WL.op (by decide) (R.not rfl) ?_
                    refine WL.op (by decide) (R.move rfl) ?_
                    refine WL.pass (by decide) rfl rfl rfl ?_
                    refine WL.pass (by decide) rfl rfl rfl ?_
                    refine WL.pass (by decide) rfl rfl rfl ?_
                    refine WL.op (by decide) (R.pickF rfl rfl) ?_
                    refine WL.op (by decide) (R.move rfl) ?_
                    refine WL.pass (by decide) rfl rfl rfl ?_
                    refine WL.pass (by decide) rfl rfl rfl ?_
                    refine WL.pass (by decide) rfl rfl rfl ?_
                    refine WL.op (by decide) (R.pickF rfl rfl) ?_
                    refine WL.op (by decide) (R.move rfl) ?_
                    refine WL.pass (by decide) rfl rfl rfl ?_
                    refine WL.pass (by decide) rfl rfl rfl ?_
                    refine WL.pass (by decide) rfl rfl rfl ?_
                    refine WL.op (by decide) (R.pickF rfl rfl) ?_
                    refine WL.op (by decide) (R.move rfl) ?_
                    refine WL.pass (by decide) rfl rfl rfl ?_
                    refine WL.pass (by decide) rfl rfl rfl ?_
                    refine WL.pass (by decide) rfl rfl rfl ?_
                    refine WL.op (by decide) (R.pickF rfl rfl) ?_
                    refine WL.op (by decide) (R.move rfl) ?_
                    refine WL.pass (by decide) rfl rfl rfl ?_
                    refine WL.pass (by decide) rfl rfl rfl ?_
                    refine WL.pass (by decide) rfl rfl rfl ?_
                    refine WL.pass (by decide) rfl rfl rfl ?_
                    refine WL.passU (by decide) rfl rfl ?_
                    refine WL.pass (by decide) rfl rfl rfl ?_
                    refine WL.op (by decide) (R.pickF rfl rfl) ?_
                    refine WL.op (by decide) (R.move rfl) ?_
                    refine WL.pass (by decide) rfl rfl rfl ?_
                    refine WL.pass (by decide) rfl rfl rfl ?_
                    refine WL.pass (by decide) rfl rfl rfl ?_
                    refine WL.op (by decide) (R.pickF rfl rfl) ?_
                    refine WL.op (by decide) (R.assign rfl) ?_
                    exact WL.cutEnd [8, 13, 14, 15] ⟨rfl, by simp only [Bool.not_true, Bool.false_and]; rfl⟩
                · rintro le w' ⟨rfl, rfl⟩
                  refine WL.next ?_
                  refine CW.rseq ?_
                  refine WL.op (by decide) (R.move rfl) ?_
                  refine WL.op (by decide) (R.move rfl) ?_
                  refine WL.op (by decide) (R.eqlBT rfl rfl (hokv.trans (matches_ok hkT hI hT1 hL1 hG1 hF1 hP1 hN))) ?_
                  refine WL.op (by decide) (R.move rfl) ?_
                  refine WL.gop (by decide) rfl rfl rfl (R.move rfl) ?_
                  cases hok : okv
                  · skip
                    skip
                    refine WL.gop (by decide) rfl rfl rfl (R.not rfl) ?_
                    refine WL.gop (by decide) rfl rfl rfl (R.move rfl) ?_
                    refine WL.pass (by decide) rfl rfl rfl ?_
                    refine WL.pass (by decide) rfl rfl rfl ?_
                    refine WL.pass (by decide) rfl rfl rfl ?_
                    refine WL.gop (by decide) rfl rfl rfl (R.pickT rfl rfl) ?_
                    refine WL.op (by decide) (R.pickT rfl rfl) ?_
                    refine WL.op (by decide) (R.assign rfl) ?_
                    refine WL.next ?_
                    refine CW.ret ?_
                    exact EW.ret1 (.inl rfl) rfl rfl ⟨rfl, hC⟩
                  · skip
                    obtain rfl := hX hok
                    refine WL.gop (by decide) rfl rfl rfl (R.not rfl) ?_
                    refine WL.gop (by decide) rfl rfl rfl (R.move rfl) ?_
                    refine WL.gop (by decide) rfl rfl rfl (R.loadM rfl hB13) ?_
                    refine WL.gop (by decide) rfl rfl rfl (R.loadM rfl hB8) ?_
                    refine WL.geff rfl rfl rfl (OP.call (by decide) Tryd.func25 (by kernel_rfl) (by kernel_rfl) rfl (same_any _ _ _ _ _ ⟨_, _, rfl, (hvX.keep0 hKX), (hvY.keep0 hKX)⟩ ⟨_, _, rfl, (RSl.nil _), (RSl.nil _)⟩ (by simp) (by simp)) ?_)
                    rintro ed w26 ⟨rfl, hc_w26⟩
                    rw [sameM_self]
                    refine ⟨_, rfl, ?_⟩
                    have hB5 := hc_w26.at hB5 (fun e => e)
                    have hB8 := hc_w26.at hB8 (fun e => e)
                    have hB13 := hc_w26.at hB13 (fun e => e)
                    have hC := hC.trans hc_w26
                    have hKX := hKX.trans hc_w26
                    have hz_w26 := hc_w26.size
                    refine WL.gop (by decide) rfl rfl rfl (R.pickF rfl rfl) ?_
                    refine WL.op (by decide) (R.pickT rfl rfl) ?_
                    refine WL.op (by decide) (R.assign rfl) ?_
                    refine WL.next ?_
                    refine CW.ret ?_
                    exact EW.ret1 (.inl rfl) rfl rfl ⟨rfl, hC⟩
end Go.Proofs.YthcpjcgjmdfpjaaDoor

namespace Go.Proofs.YthcpjcgjmdfpjaaDoor
open Go Go.ChangeShapes Go.WideShapes Go.ChangeAt Go.RowKit
set_option maxRecDepth 100000

theorem transMatches_lifted (os : Os) (started : os.Started) (H : Type) (enc : TypeId × Value → H) :
    ReturnsInHanded {} Tryd.checked os 3 .any (fun w args => (Rows.transMatchesSpec.pre enc Tryd.prog Tryd.f3 [] false w args ∧ laidMetH Tryd.prog laidL w) ∧ sizedMet enc Tryd.prog Tryd.f3 (OpenSpec.ofChange Rows.transMatchesSpec) false w args)
      (Rows.transMatchesSpec.post enc Tryd.prog Tryd.f3 false true false false) := by
  refine law_lifted (s := Rows.transMatchesSpec) started Tryd.func3 (by kernel_rfl) rfl (by kernel_rfl) (by kernel_rfl) ?_ ?_
    (ChangeSpec.witness_shaped (enc := enc) (C := Tryd.checked) (os := os) (X := fun w _ => laidMetH Tryd.prog laidL w) false (World.laidAll Tryd.prog os laidL) #[.int .i64 0, .bool false, .agg #[.bool false, .bool false, .bool false, .bool false, .bool false, .bool false, .bool false]] 8 (World.laidAll_os _ _ _)
      (World.shaped_of_ZipB (by kernel_rfl) (by kernel_rfl)) (by kernel_rfl) (by kernel_rfl) (by kernel_rfl)
      (by rw [MakeChecks.laidMetH_plain _ _ _ (by kernel_rfl)]; exact laidMet_laidAll _ (by kernel_rfl) (by kernel_rfl))) ?_
  · intro ds hl
    rw [show Tryd.f3.params.size = 3 by rw [Tryd.params3]; rfl] at hl
    obtain ⟨d0, d1, d2, rfl⟩ := list3 hl
    rfl
  · intro W vs ds ps h
    exact trodAll_len h
  intro W base args ds p hval hA hlt hw hG
  rw [Tryd.params3] at hA hval hw
  obtain ⟨v0, v1, v2, d0, d1, d2, p0, p1, p2, rfl, rfl, rfl, h0, h1, h2⟩ := trodAll_three hA
  obtain ⟨n, rfl, rfl, rfl, _⟩ := open_int Tryd.underlying3 (hval 0 3 v0 rfl rfl) h0
  obtain ⟨b1, rfl, rfl, rfl⟩ := open_bool Tryd.underlying4 (hval 1 4 v1 rfl rfl) h1
  obtain ⟨l, rfl, hl⟩ := open_bool7 (hval 2 22 v2 rfl rfl) h2
  obtain ⟨o0, o1, o2, o3, o4, o5, o6, rfl⟩ : ∃ o0 o1 o2 o3 o4 o5 o6, l = [o0, o1, o2, o3, o4, o5, o6] := by
    match l, hl with
    | [a, b, c, d, e, f, g], _ => exact ⟨a, b, c, d, e, f, g, rfl⟩
  exact transMatches_any n b1 o0 o1 o2 o3 o4 o5 o6 W hG

theorem transMatches_joined : joinedFacts Tryd.prog 3 Tryd.f3 Rows.transMatchesSpec Rows.transMatchesRow = true :=
  joined_of seat_mayEnter seat_lifts seat_make rfl rfl rfl rfl (by kernel_rfl) (by kernel_rfl) (by kernel_rfl) (by kernel_rfl) (by kernel_rfl) (by kernel_rfl) (by kernel_rfl) (by kernel_rfl) (by kernel_rfl) (by kernel_rfl) (by kernel_rfl) (by kernel_rfl) (by kernel_rfl) (by kernel_rfl) (by kernel_rfl) (by kernel_rfl) (by kernel_rfl) (by kernel_rfl) (by kernel_rfl) (by kernel_rfl) (by kernel_rfl) (by kernel_rfl) (by kernel_rfl) (by kernel_rfl) (by kernel_rfl) (by kernel_rfl) (by kernel_rfl) (by kernel_rfl)
theorem transMatches_holds : Rows.TransMatchesSaid :=
  OpenClaim.holds_of_wide 3 Tryd.f3 rfl rfl rfl rfl rfl rfl rfl ⟨rfl, rfl, rfl, rfl, rfl⟩ rfl rfl rfl rfl rfl (by kernel_rfl) Tryd.func3 transMatches_joined
    (of_decide_eq_true (by kernel_rfl)) (by unfold Func.isWrapper; first | (rw [if_pos (by decide +kernel)]; kernel_rfl) | (rw [if_neg (by decide +kernel)]; exact ⟨rfl, rfl⟩))
    (fun os started H enc _ => transMatches_lifted os started H enc)
theorem transMatches_card : Rows.TransMatchesCardSaid :=
  Claim7.holds_tied_plain_at .later [] [.data] true (true, "6afa14409c1fcf784e159d3dd9af9e0af6fc07a3d3e06aa2c8b4c577951ca517") false transMatches_holds (fun _ h => by cases h) (by kernel_rfl) (fun _ h => by cases h) transMatches_row_tie rfl ⟨rfl, rfl⟩ seat_main rfl
    (fun f fn hf hfn => by
      obtain rfl : f = 3 := Option.some.inj ((show Tryd.prog.funcNamed "nomenclator/nomenclatorlaw13.TransMatches" = some 3 by kernel_rfl).symm.trans hf) |>.symm
      obtain rfl : fn = Tryd.f3 := (Option.some.inj (Tryd.func3.symm.trans hfn)).symm
      exact ⟨by kernel_rfl, fun j t ht => by
        rw [Tryd.params3] at ht
        have hm : t ∈ [3, 4, 22] := by simpa using Array.mem_of_getElem? ht
        have hall : ([3, 4, 22].all fun u => !Tryd.prog.wantsStandIn u) = true := by kernel_rfl
        exact (show Tryd.prog.wantsStandIn t = false by simpa using List.all_eq_true.1 hall t hm)⟩)
    (by kernel_rfl)
end Go.Proofs.YthcpjcgjmdfpjaaDoor
