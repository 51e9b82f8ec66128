/- TransJunk: the statement TransJunk is proved (its card); no conditions. Here: Junk, TransJunkCard. -/
import Derived.Test.YthcpjcgjmdfpjaaDoorWordsTrans
import Derived.Test.YthcpjcgjmdfpjaaDoorCoreE
import Derived.Test.YthcpjcgjmdfpjaaDoorCoreB
namespace Go.Proofs.YthcpjcgjmdfpjaaDoor
open Go Go.RowKit
set_option maxRecDepth 100000
set_option maxHeartbeats 4000000

theorem ans_parts {t : Tr} {m : Msg} (h : ansT t m = true) : m.reply = true ∧ m.id = t.id ∧ m.qname = t.qname ∧ m.qtype = t.qtype := by
  unfold ansT at h
  simp only [Bool.and_eq_true, decide_eq_true_eq] at h
  exact ⟨h.1.1.1, h.1.1.2, h.1.2, h.2⟩
theorem ans_all {t : Tr} {m : Msg} (h1 : m.reply = true) (h2 : m.id = t.id) (h3 : m.qname = t.qname ∧ m.qtype = t.qtype) : ansT t m = true := by
  unfold ansT; simp [h1, h2, h3.1, h3.2]
theorem match_three {t : Tr} {base : Nat} {res : Option Msg} {e : Ending} {w : World} (_h16 : t.to.length = 16) (h : MatchRes t t.link t.gen t.to t.port base res e w) :
    (res = none ∧ e = .returned (.tuple #[zeroMV, .bool false])) ∨ (∃ M, res = some M ∧ ansT t M = true ∧ ∃ va vb, e = .returned (.tuple #[.agg (M.cells va vb).toArray, .bool true]) ∧ RSl w va M.ans ∧ RSl w vb M.auth) ∨
    (∃ M, res = some M ∧ ansT t M = false ∧ ∃ va vb, e = .returned (.tuple #[.agg (M.cells va vb).toArray, .bool false]) ∧ RSl w va M.ans ∧ RSl w vb M.auth) := by
  unfold MatchRes at h
  cases res with
  | none => exact .inl ⟨rfl, h⟩
  | some M =>
    simp only at h
    rw [if_pos (by unfold passT; simp)] at h
    obtain ⟨v, rfl, va, vb, rfl, h1, h2, _⟩ := h
    cases ha : ansT t M with
    | true => exact .inr (.inl ⟨M, rfl, ha, va, vb, rfl, h1, h2⟩)
    | false => exact .inr (.inr ⟨M, rfl, ha, va, vb, rfl, h1, h2⟩)
theorem dec_len {bs : List UInt8} {M : Msg} (h : decode bs = some M) : M.ans.length ≤ 1099511627776 ∧ M.auth.length ≤ 1099511627776 := by
  have := (all_parts (decode_all h)).2.2.2.2.2.2.2.1
  omega
theorem transJunk_any (n : Int) (A : Option Addr) (m c : Nat) (bs : List UInt8) (w0 : World) (hS : Src w0 A m c bs) (hgl : ∀ g o, A = some ⟨g, o, none⟩ → g < w0.heap.size) (hG : Glob w0) :
    Calls Tryd.prog 5 #[.int .i64 n, .slice A m c] w0 fun e w' => e = .returned (.bool true) ∧ Chg (fun _ => False) w0 w' := by
  refine calls_cw (args := [.int .i64 n, .slice A m c]) Tryd.func5 rfl rfl ?_
  show CW _ _ _ 83 [(0, .int .i64 n), (1, .slice A m c)] w0
  refine CW.rseq ?_
  refine WL.op (by decide) (R.assign rfl) ?_
  refine WL.next ?_
  refine CW.seq ?_
  refine CW.rseq ?_
  refine WL.eff rfl (OP.call (args := []) (by decide) Tryd.func21 (by kernel_rfl) (by kernel_rfl) rfl (fit13_any w0 hG) ?_)
  rintro ed w1 ⟨rfl, hC⟩
  refine ⟨_, rfl, ?_⟩
  have hG := hG.kept hC (fun e => e)
  have hS := hS.kept hC (fun _ _ _ e => e)
  refine WL.op (by decide) (R.not rfl) ?_
  refine WL.next ?_
  refine CW.condF rfl ?_
  refine CW.skip ?_
  refine EW.next ?_
  refine CW.seq ?_
  refine CW.rseq ?_
  refine WL.op (by decide) (R.move rfl) ?_
  refine WL.op (by decide) (R.lenSlice rfl Tryd.underlying36 rfl) ?_
  refine WL.split _ (by decide) (R.gtrD rfl rfl) (fun h1 => ?_) (fun h1 => ?_)
  · skip
    refine WL.next ?_
    refine CW.condT rfl ?_
    refine CW.rseq ?_
    refine WL.op (by decide) (R.assign rfl) ?_
    refine WL.next ?_
    refine CW.ret ?_
    refine EW.thenRet ?_
    exact EW.ret1 (.inl rfl) rfl rfl ⟨rfl, hC⟩
  · skip
    refine WL.next ?_
    refine CW.condF rfl ?_
    refine CW.skip ?_
    refine EW.next ?_
    refine CW.rseq ?_
    refine WL.op (by decide) (R.move rfl) ?_
    refine WL.eff rfl (OP.call (by decide) Tryd.func22 (by kernel_rfl) (by kernel_rfl) rfl (build_any n false w1) ?_)
    rintro ed w2 ⟨rfl, hc2⟩
    obtain ⟨T, hT0⟩ : ∃ T, T = buildT n false := ⟨_, rfl⟩
    rw [← hT0]
    have h16 : T.to.length = 16 := by rw [hT0]; rfl
    clear hT0
    refine ⟨_, rfl, ?_⟩
    have hG := hG.kept hc2 (fun e => e)
    have hS := hS.kept hc2 (fun _ _ _ e => e)
    have hC := hC.trans hc2
    refine WL.eff rfl (OP.alloc1 (.agg (Tr.cells ⟨[], 0, 0, 0, zero16, 0, 0, false, false, 0⟩).toArray) (by decide) (by kernel_rfl) ?_)
    intro w3 hc3 hs3 hT
    obtain ⟨bt, he_bt⟩ : ∃ b, b = w2.heap.size := ⟨_, rfl⟩
    rw [← he_bt] at hT ⊢
    refine WL.eff rfl (OP.storeAgg inf29.choose_spec.1 (by rw [inf29.choose_spec.2, List.size_toArray, Tr.length h16]) rfl rfl (Tr.allOne _) hT (by rw [show T.cells.toArray.size = 25 by rw [List.size_toArray, Tr.length h16]]; rfl) ?_)
    intro w4 hc4 hs4 hT
    have hc34 : Chg (fun _ => False) w2 w4 := hc3.then hc4 (fun k hk e => by omega)
    have hC := hC.trans hc34
    have hG := hG.kept hc34 (fun e => e)
    have hS := hS.kept hc34 (fun _ _ _ e => e)
    refine WL.next ?_
    refine CW.rseq ?_
    refine WL.op (by decide) (R.loadAgg1 (cs := Tr.cells T) Tryd.underlying29 rfl (by rw [Tr.length h16]; exact sz29) rfl (fun j u hj => cell_at hT (by rw [Nat.zero_add, List.getElem?_toArray]; exact hj))) ?_
    refine WL.op (by decide) (FA29_1 rfl) ?_
    refine WL.op (by decide) (R.load Tryd.underlying3 rfl rfl (cell_at hT rfl)) ?_
    refine WL.op (by decide) (FA29_2 rfl) ?_
    refine WL.op (by decide) (R.load Tryd.underlying3 rfl rfl (cell_at hT rfl)) ?_
    refine WL.op (by decide) (FA29_3 rfl) ?_
    refine WL.op (by decide) (R.loadAgg1 (cs := T.to.map u8v) Tryd.underlying27 rfl (by rw [List.length_map, h16]; exact sz27) rfl (fun j u hj => cell_at hT (by rw [Nat.zero_add]; exact Tr.atTo hj))) ?_
    refine WL.op (by decide) (FA29_5 rfl) ?_
    refine WL.op (by decide) (R.load Tryd.underlying3 rfl rfl (cell_at hT (Tr.at21 h16))) ?_
    refine WL.op (by decide) (R.move rfl) ?_
    refine WL.eff rfl (OP.call (by decide) Tryd.func23 (by kernel_rfl) (by kernel_rfl) rfl (match_any T T.link T.gen T.to T.port A m c bs w4 h16 h16 hS (fun g o h => by have := hgl g o h; have := hC.size; omega) (by omega) hG) ?_)
    rintro ed w5 ⟨hc5, hres⟩
    have hz5 := hc5.size
    have hT := hc5.at hT (fun e => e)
    have hC := hC.trans hc5
    have hG := hG.kept hc5 (fun e => e)
    have hS := hS.kept hc5 (fun _ _ _ e => e)
    rcases match_three h16 hres with ⟨hd, rfl⟩ | ⟨M, hd, hans, va, vb, rfl, hva, hvb⟩ | ⟨M, hd, hans, va, vb, rfl, hva, hvb⟩
    · skip
      refine ⟨_, rfl, ?_⟩
      refine WL.op (by decide) (R.move rfl) ?_
      refine WL.op (by decide) (R.extract rfl rfl) ?_
      refine WL.op (by decide) (R.extract rfl rfl) ?_
      refine WL.eff rfl (OP.alloc1 (.agg (Msg.cells ⟨0, false, false, false, 0, [], 0, [], []⟩ (.slice none 0 0) (.slice none 0 0)).toArray) (by decide) (by kernel_rfl) ?_)
      intro w6 hc6 hs6 hM1
      obtain ⟨b1, he_b1⟩ : ∃ b, b = w5.heap.size := ⟨_, rfl⟩
      rw [← he_b1] at hM1 ⊢
      have hT := hc6.at hT (fun e => e)
      refine WL.eff rfl (OP.storeAgg inf33.choose_spec.1 (by rw [inf33.choose_spec.2]; rfl) rfl rfl (m_all _ _ _ _ _ _ _) hM1 rfl ?_)
      intro w7 hc7 hs7 hM1
      have hT := hc7.at hT (fun e => by omega)
      have hc67 : Chg (fun _ => False) w5 w7 := hc6.then hc7 (fun k hk e => by omega)
      have hC := hC.trans hc67
      have hG := hG.kept hc67 (fun e => e)
      have hS := hS.kept hc67 (fun _ _ _ e => e)
      refine WL.op (by decide) (R.assign rfl) ?_
      refine WL.next ?_
      refine CW.rseq ?_
      refine WL.op (by decide) (R.move rfl) ?_
      refine WL.eff rfl (OP.call (by decide) Tryd.func27 (by kernel_rfl) (by kernel_rfl) rfl (decode_any A m c bs w7 hS (fun g o h => by have := hgl g o h; have := hC.size; omega) (by omega) hG) ?_)
      rintro ed w8 ⟨hc8, hres2⟩
      have hz8 := hc8.size
      rw [hd] at hres2
      have hT := hc8.at hT (fun e => e)
      have hM1 := hc8.at hM1 (fun e => e)
      have hC := hC.trans hc8
      obtain rfl := hres2
      refine ⟨_, rfl, ?_⟩
      refine WL.op (by decide) (R.move rfl) ?_
      refine WL.op (by decide) (R.extract rfl rfl) ?_
      refine WL.op (by decide) (R.extract rfl rfl) ?_
      refine WL.eff rfl (OP.alloc1 (.agg (Msg.cells ⟨0, false, false, false, 0, [], 0, [], []⟩ (.slice none 0 0) (.slice none 0 0)).toArray) (by decide) (by kernel_rfl) ?_)
      intro w9 hc9 hs9 hM2
      obtain ⟨b2, he_b2⟩ : ∃ b, b = w8.heap.size := ⟨_, rfl⟩
      rw [← he_b2] at hM2 ⊢
      have hT := hc9.at hT (fun e => e)
      have hM1 := hc9.at hM1 (fun e => e)
      refine WL.eff rfl (OP.storeAgg inf33.choose_spec.1 (by rw [inf33.choose_spec.2]; rfl) rfl rfl (m_all _ _ _ _ _ _ _) hM2 rfl ?_)
      intro w10 hc10 hs10 hM2
      have hT := hc10.at hT (fun e => by omega)
      have hM1 := hc10.at hM1 (fun e => by omega)
      have hc910 : Chg (fun _ => False) w8 w10 := hc9.then hc10 (fun k hk e => by omega)
      have hC := hC.trans hc910
      refine WL.op (by decide) (R.assign rfl) ?_
      refine WL.next ?_
      refine CW.seq ?_
      refine CW.rseq ?_
      refine WL.op (by decide) (R.move rfl) ?_
      refine WL.next ?_
      refine CW.condF rfl ?_
      refine CW.skip ?_
      refine EW.next ?_
      refine CW.rseq ?_
      refine WL.op (by decide) (R.move rfl) ?_
      refine WL.op (by decide) (R.neq rfl rfl (c := true) (by decide)) ?_
      refine WL.op (by decide) (R.move rfl) ?_
      refine WL.pass (by decide) rfl rfl rfl ?_
      refine WL.pass (by decide) rfl rfl rfl ?_
      refine WL.pass (by decide) rfl rfl rfl ?_
      refine WL.op (by decide) (R.pickT rfl rfl) ?_
      refine WL.op (by decide) (R.move rfl) ?_
      refine WL.pass (by decide) rfl rfl rfl ?_
      refine WL.pass (by decide) rfl rfl rfl ?_
      refine WL.pass (by decide) rfl rfl rfl ?_
      refine WL.pass (by decide) rfl rfl rfl ?_
      refine WL.pass (by decide) rfl rfl rfl ?_
      refine WL.op (by decide) (R.pickT rfl rfl) ?_
      refine WL.op (by decide) (R.move rfl) ?_
      refine WL.pass (by decide) rfl rfl rfl ?_
      refine WL.pass (by decide) rfl rfl rfl ?_
      refine WL.pass (by decide) rfl rfl rfl ?_
      refine WL.pass (by decide) rfl rfl rfl ?_
      refine WL.pass (by decide) rfl rfl rfl ?_
      refine WL.op (by decide) (R.pickT rfl rfl) ?_
      refine WL.op (by decide) (R.assign rfl) ?_
      refine WL.next ?_
      refine CW.ret ?_
      exact EW.ret1 (.inl rfl) rfl rfl ⟨rfl, hC⟩
    · skip
      obtain ⟨Aa, ca, rfl, _⟩ := hva.form
      obtain ⟨Ab, cb, rfl, _⟩ := hvb.form
      refine ⟨_, rfl, ?_⟩
      refine WL.op (by decide) (R.move rfl) ?_
      refine WL.op (by decide) (R.extract rfl rfl) ?_
      refine WL.op (by decide) (R.extract rfl rfl) ?_
      refine WL.eff rfl (OP.alloc1 (.agg (Msg.cells ⟨0, false, false, false, 0, [], 0, [], []⟩ (.slice none 0 0) (.slice none 0 0)).toArray) (by decide) (by kernel_rfl) ?_)
      intro w6 hc6 hs6 hM1
      obtain ⟨b1, he_b1⟩ : ∃ b, b = w5.heap.size := ⟨_, rfl⟩
      rw [← he_b1] at hM1 ⊢
      have hT := hc6.at hT (fun e => e)
      refine WL.eff rfl (OP.storeAgg inf33.choose_spec.1 (by rw [inf33.choose_spec.2]; rfl) rfl rfl (m_all _ _ _ _ _ _ _) hM1 rfl ?_)
      intro w7 hc7 hs7 hM1
      have hT := hc7.at hT (fun e => by omega)
      have hc67 : Chg (fun _ => False) w5 w7 := hc6.then hc7 (fun k hk e => by omega)
      have hC := hC.trans hc67
      have hG := hG.kept hc67 (fun e => e)
      have hS := hS.kept hc67 (fun _ _ _ e => e)
      have hva := hva.kept hc67 (fun _ _ e => e)
      have hvb := hvb.kept hc67 (fun _ _ e => e)
      refine WL.op (by decide) (R.assign rfl) ?_
      refine WL.next ?_
      refine CW.rseq ?_
      refine WL.op (by decide) (R.move rfl) ?_
      refine WL.eff rfl (OP.call (by decide) Tryd.func27 (by kernel_rfl) (by kernel_rfl) rfl (decode_any A m c bs w7 hS (fun g o h => by have := hgl g o h; have := hC.size; omega) (by omega) hG) ?_)
      rintro ed w8 ⟨hc8, hres2⟩
      have hz8 := hc8.size
      rw [hd] at hres2
      have hT := hc8.at hT (fun e => e)
      have hM1 := hc8.at hM1 (fun e => e)
      have hC := hC.trans hc8
      have hva := hva.kept hc8 (fun _ _ e => e)
      have hvb := hvb.kept hc8 (fun _ _ e => e)
      obtain ⟨v2, rfl, vc, vd, rfl, hvc, hvd, _⟩ := hres2
      obtain ⟨Ac, cc, rfl, _⟩ := hvc.form
      obtain ⟨Ad, cd, rfl, _⟩ := hvd.form
      refine ⟨_, rfl, ?_⟩
      refine WL.op (by decide) (R.move rfl) ?_
      refine WL.op (by decide) (R.extract rfl rfl) ?_
      refine WL.op (by decide) (R.extract rfl rfl) ?_
      refine WL.eff rfl (OP.alloc1 (.agg (Msg.cells ⟨0, false, false, false, 0, [], 0, [], []⟩ (.slice none 0 0) (.slice none 0 0)).toArray) (by decide) (by kernel_rfl) ?_)
      intro w9 hc9 hs9 hM2
      obtain ⟨b2, he_b2⟩ : ∃ b, b = w8.heap.size := ⟨_, rfl⟩
      rw [← he_b2] at hM2 ⊢
      have hT := hc9.at hT (fun e => e)
      have hM1 := hc9.at hM1 (fun e => e)
      refine WL.eff rfl (OP.storeAgg inf33.choose_spec.1 (by rw [inf33.choose_spec.2]; rfl) rfl rfl (m_all _ _ _ _ _ _ _) hM2 rfl ?_)
      intro w10 hc10 hs10 hM2
      have hT := hc10.at hT (fun e => by omega)
      have hM1 := hc10.at hM1 (fun e => by omega)
      have hc910 : Chg (fun _ => False) w8 w10 := hc9.then hc10 (fun k hk e => by omega)
      have hC := hC.trans hc910
      have hva := hva.kept hc910 (fun _ _ e => e)
      have hvb := hvb.kept hc910 (fun _ _ e => e)
      have hvc := hvc.kept hc910 (fun _ _ e => e)
      have hvd := hvd.kept hc910 (fun _ _ e => e)
      refine WL.op (by decide) (R.assign rfl) ?_
      refine WL.next ?_
      refine CW.seq ?_
      refine CW.rseq ?_
      refine WL.op (by decide) (R.move rfl) ?_
      refine WL.next ?_
      refine CW.condT rfl ?_
      refine CW.rseq ?_
      refine WL.op (by decide) (R.move rfl) ?_
      refine WL.op (by decide) (R.eql rfl rfl (c := true) (by decide)) ?_
      refine WL.op (by decide) (R.move rfl) ?_
      refine WL.gop (by decide) rfl rfl rfl (FA33_1 rfl) ?_
      obtain ⟨g1, g2, g3, g4⟩ := ans_parts hans
      refine WL.gop (by decide) rfl rfl rfl (R.load (v := .bool true) Tryd.underlying4 rfl rfl (cell_at hM2 (show _ = some (Value.bool true) from congrArg (fun b => some (Value.bool b)) g1))) ?_
      refine WL.op (by decide) (R.pickT rfl rfl) ?_
      refine WL.op (by decide) (R.move rfl) ?_
      refine WL.gop (by decide) rfl rfl rfl (FA33_0 rfl) ?_
      refine WL.gop (by decide) rfl rfl rfl (R.load Tryd.underlying3 rfl rfl (cell_at hM2 rfl)) ?_
      refine WL.gop (by decide) rfl rfl rfl (FA29_4 rfl) ?_
      refine WL.gop (by decide) rfl rfl rfl (R.load Tryd.underlying3 rfl rfl (cell_at hT (Tr.at20 h16))) ?_
      refine WL.gop (by decide) rfl rfl rfl (R.eql rfl rfl (decide_eq_true (g2))) ?_
      refine WL.op (by decide) (R.pickT rfl rfl) ?_
      refine WL.op (by decide) (R.move rfl) ?_
      refine WL.gop (by decide) rfl rfl rfl (FA33_5 rfl) ?_
      refine WL.gop (by decide) rfl rfl rfl (R.loadAgg1 (cs := [sv M.qname, .int .i64 M.qtype]) Tryd.underlying25 rfl sz25 rfl (fun j u hj => cell_at hM2 (by match j, hj with | 0, hj => exact hj | 1, hj => exact hj))) ?_
      refine WL.gop (by decide) rfl rfl rfl (FA29_0 rfl) ?_
      refine WL.gop (by decide) rfl rfl rfl (R.loadAgg1 (cs := [sv T.qname, .int .i64 T.qtype]) Tryd.underlying25 rfl sz25 rfl (fun j u hj => cell_at hT (by match j, hj with | 0, hj => exact hj | 1, hj => exact hj))) ?_
      refine WL.gop (by decide) rfl rfl rfl (R.eql25 (a := M.qname) (b := T.qname) (m := M.qtype) (n := T.qtype) (c := true) rfl rfl (decide_eq_true ⟨g3, g4⟩)) ?_
      refine WL.op (by decide) (R.pickT rfl rfl) ?_
      refine WL.op (by decide) (R.move rfl) ?_
      refine WL.gop (by decide) rfl rfl rfl (R.loadAgg1 (cs := (M.cells (.slice Aa M.ans.length ca) (.slice Ab M.auth.length cb))) Tryd.underlying33 rfl sz33 rfl (fun j u hj => cell_at hM1 (by rw [Nat.zero_add, List.getElem?_toArray]; exact hj))) ?_
      refine WL.gop (by decide) rfl rfl rfl (R.loadAgg1 (cs := (M.cells (.slice Ac M.ans.length cc) (.slice Ad M.auth.length cd))) Tryd.underlying33 rfl sz33 rfl (fun j u hj => cell_at hM2 (by rw [Nat.zero_add, List.getElem?_toArray]; exact hj))) ?_
      refine WL.geff rfl rfl rfl (OP.call (by decide) Tryd.func25 (by kernel_rfl) (by kernel_rfl) rfl (same_any M M _ _ w10 ⟨_, _, rfl, hva, hvb⟩ ⟨_, _, rfl, hvc, hvd⟩ (dec_len hd).1 (dec_len hd).2) ?_)
      rintro ed w11 ⟨rfl, hc11⟩
      rw [sameM_self]
      refine ⟨_, rfl, ?_⟩
      have hC := hC.trans hc11
      refine WL.op (by decide) (R.pickT rfl rfl) ?_
      refine WL.op (by decide) (R.assign rfl) ?_
      refine WL.next ?_
      refine CW.ret ?_
      refine EW.thenRet ?_
      exact EW.ret1 (.inl rfl) rfl rfl ⟨rfl, hC⟩
    · skip
      obtain ⟨Aa, ca, rfl, _⟩ := hva.form
      obtain ⟨Ab, cb, rfl, _⟩ := hvb.form
      refine ⟨_, rfl, ?_⟩
      refine WL.op (by decide) (R.move rfl) ?_
      refine WL.op (by decide) (R.extract rfl rfl) ?_
      refine WL.op (by decide) (R.extract rfl rfl) ?_
      refine WL.eff rfl (OP.alloc1 (.agg (Msg.cells ⟨0, false, false, false, 0, [], 0, [], []⟩ (.slice none 0 0) (.slice none 0 0)).toArray) (by decide) (by kernel_rfl) ?_)
      intro w6 hc6 hs6 hM1
      obtain ⟨b1, he_b1⟩ : ∃ b, b = w5.heap.size := ⟨_, rfl⟩
      rw [← he_b1] at hM1 ⊢
      have hT := hc6.at hT (fun e => e)
      refine WL.eff rfl (OP.storeAgg inf33.choose_spec.1 (by rw [inf33.choose_spec.2]; rfl) rfl rfl (m_all _ _ _ _ _ _ _) hM1 rfl ?_)
      intro w7 hc7 hs7 hM1
      have hT := hc7.at hT (fun e => by omega)
      have hc67 : Chg (fun _ => False) w5 w7 := hc6.then hc7 (fun k hk e => by omega)
      have hC := hC.trans hc67
      have hG := hG.kept hc67 (fun e => e)
      have hS := hS.kept hc67 (fun _ _ _ e => e)
      have hva := hva.kept hc67 (fun _ _ e => e)
      have hvb := hvb.kept hc67 (fun _ _ e => e)
      refine WL.op (by decide) (R.assign rfl) ?_
      refine WL.next ?_
      refine CW.rseq ?_
      refine WL.op (by decide) (R.move rfl) ?_
      refine WL.eff rfl (OP.call (by decide) Tryd.func27 (by kernel_rfl) (by kernel_rfl) rfl (decode_any A m c bs w7 hS (fun g o h => by have := hgl g o h; have := hC.size; omega) (by omega) hG) ?_)
      rintro ed w8 ⟨hc8, hres2⟩
      have hz8 := hc8.size
      rw [hd] at hres2
      have hT := hc8.at hT (fun e => e)
      have hM1 := hc8.at hM1 (fun e => e)
      have hC := hC.trans hc8
      have hva := hva.kept hc8 (fun _ _ e => e)
      have hvb := hvb.kept hc8 (fun _ _ e => e)
      obtain ⟨v2, rfl, vc, vd, rfl, hvc, hvd, _⟩ := hres2
      obtain ⟨Ac, cc, rfl, _⟩ := hvc.form
      obtain ⟨Ad, cd, rfl, _⟩ := hvd.form
      refine ⟨_, rfl, ?_⟩
      refine WL.op (by decide) (R.move rfl) ?_
      refine WL.op (by decide) (R.extract rfl rfl) ?_
      refine WL.op (by decide) (R.extract rfl rfl) ?_
      refine WL.eff rfl (OP.alloc1 (.agg (Msg.cells ⟨0, false, false, false, 0, [], 0, [], []⟩ (.slice none 0 0) (.slice none 0 0)).toArray) (by decide) (by kernel_rfl) ?_)
      intro w9 hc9 hs9 hM2
      obtain ⟨b2, he_b2⟩ : ∃ b, b = w8.heap.size := ⟨_, rfl⟩
      rw [← he_b2] at hM2 ⊢
      have hT := hc9.at hT (fun e => e)
      have hM1 := hc9.at hM1 (fun e => e)
      refine WL.eff rfl (OP.storeAgg inf33.choose_spec.1 (by rw [inf33.choose_spec.2]; rfl) rfl rfl (m_all _ _ _ _ _ _ _) hM2 rfl ?_)
      intro w10 hc10 hs10 hM2
      have hT := hc10.at hT (fun e => by omega)
      have hM1 := hc10.at hM1 (fun e => by omega)
      have hc910 : Chg (fun _ => False) w8 w10 := hc9.then hc10 (fun k hk e => by omega)
      have hC := hC.trans hc910
      have hva := hva.kept hc910 (fun _ _ e => e)
      have hvb := hvb.kept hc910 (fun _ _ e => e)
      have hvc := hvc.kept hc910 (fun _ _ e => e)
      have hvd := hvd.kept hc910 (fun _ _ e => e)
      refine WL.op (by decide) (R.assign rfl) ?_
      refine WL.next ?_
      refine CW.seq ?_
      refine CW.rseq ?_
      refine WL.op (by decide) (R.move rfl) ?_
      refine WL.next ?_
      refine CW.condF rfl ?_
      refine CW.skip ?_
      refine EW.next ?_
      refine CW.rseq ?_
      refine WL.op (by decide) (R.move rfl) ?_
      refine WL.op (by decide) (R.neq rfl rfl (c := false) (by decide)) ?_
      refine WL.op (by decide) (R.move rfl) ?_
      refine WL.gop (by decide) rfl rfl rfl (FA33_1 rfl) ?_
      cases hrep : M.reply
      · skip
        refine WL.gop (by decide) rfl rfl rfl (R.load (v := .bool false) Tryd.underlying4 rfl rfl (cell_at hM2 (show _ = some (Value.bool false) from congrArg (fun b => some (Value.bool b)) hrep))) ?_
        refine WL.gop (by decide) rfl rfl rfl (R.not rfl) ?_
        refine WL.op (by decide) (R.pickF rfl rfl) ?_
        refine WL.op (by decide) (R.move rfl) ?_
        refine WL.pass (by decide) rfl rfl rfl ?_
        refine WL.pass (by decide) rfl rfl rfl ?_
        refine WL.pass (by decide) rfl rfl rfl ?_
        refine WL.pass (by decide) rfl rfl rfl ?_
        refine WL.pass (by decide) rfl rfl rfl ?_
        refine WL.op (by decide) (R.pickT rfl rfl) ?_
        refine WL.op (by decide) (R.move rfl) ?_
        refine WL.pass (by decide) rfl rfl rfl ?_
        refine WL.pass (by decide) rfl rfl rfl ?_
        refine WL.pass (by decide) rfl rfl rfl ?_
        refine WL.pass (by decide) rfl rfl rfl ?_
        refine WL.pass (by decide) rfl rfl rfl ?_
        refine WL.op (by decide) (R.pickT rfl rfl) ?_
        refine WL.op (by decide) (R.assign rfl) ?_
        refine WL.next ?_
        refine CW.ret ?_
        exact EW.ret1 (.inl rfl) rfl rfl ⟨rfl, hC⟩
      · skip
        refine WL.gop (by decide) rfl rfl rfl (R.load (v := .bool true) Tryd.underlying4 rfl rfl (cell_at hM2 (show _ = some (Value.bool true) from congrArg (fun b => some (Value.bool b)) hrep))) ?_
        refine WL.gop (by decide) rfl rfl rfl (R.not rfl) ?_
        refine WL.op (by decide) (R.pickF rfl rfl) ?_
        refine WL.op (by decide) (R.move rfl) ?_
        refine WL.gop (by decide) rfl rfl rfl (FA33_0 rfl) ?_
        refine WL.gop (by decide) rfl rfl rfl (R.load Tryd.underlying3 rfl rfl (cell_at hM2 rfl)) ?_
        refine WL.gop (by decide) rfl rfl rfl (FA29_4 rfl) ?_
        refine WL.gop (by decide) rfl rfl rfl (R.load Tryd.underlying3 rfl rfl (cell_at hT (Tr.at20 h16))) ?_
        refine WL.gsplit _ (by decide) rfl rfl rfl (R.neqD rfl rfl) (fun h2 => ?_) (fun h2 => ?_)
        · skip
          refine WL.op (by decide) (R.pickF rfl rfl) ?_
          refine WL.op (by decide) (R.move rfl) ?_
          refine WL.pass (by decide) rfl rfl rfl ?_
          refine WL.pass (by decide) rfl rfl rfl ?_
          refine WL.pass (by decide) rfl rfl rfl ?_
          refine WL.pass (by decide) rfl rfl rfl ?_
          refine WL.pass (by decide) rfl rfl rfl ?_
          refine WL.op (by decide) (R.pickT rfl rfl) ?_
          refine WL.op (by decide) (R.assign rfl) ?_
          refine WL.next ?_
          refine CW.ret ?_
          exact EW.ret1 (.inl rfl) rfl rfl ⟨rfl, hC⟩
        · skip
          refine WL.op (by decide) (R.pickF rfl rfl) ?_
          refine WL.op (by decide) (R.move rfl) ?_
          refine WL.gop (by decide) rfl rfl rfl (FA33_5 rfl) ?_
          refine WL.gop (by decide) rfl rfl rfl (R.loadAgg1 (cs := [sv M.qname, .int .i64 M.qtype]) Tryd.underlying25 rfl sz25 rfl (fun j u hj => cell_at hM2 (by match j, hj with | 0, hj => exact hj | 1, hj => exact hj))) ?_
          refine WL.gop (by decide) rfl rfl rfl (FA29_0 rfl) ?_
          refine WL.gop (by decide) rfl rfl rfl (R.loadAgg1 (cs := [sv T.qname, .int .i64 T.qtype]) Tryd.underlying25 rfl sz25 rfl (fun j u hj => cell_at hT (by match j, hj with | 0, hj => exact hj | 1, hj => exact hj))) ?_
          refine WL.gsplit _ (by decide) rfl rfl rfl (R.neq25D (a := M.qname) (b := T.qname) (m := M.qtype) (n := T.qtype) rfl rfl) (fun h3 => ?_) (fun h3 => ?_)
          · skip
            refine WL.op (by decide) (R.pickF rfl rfl) ?_
            refine WL.op (by decide) (R.assign rfl) ?_
            refine WL.next ?_
            refine CW.ret ?_
            exact EW.ret1 (.inl rfl) rfl rfl ⟨rfl, hC⟩
          · skip
            refine WL.op (by decide) (R.pickF rfl rfl) ?_
            refine WL.op (by decide) (R.assign rfl) ?_
            refine WL.next ?_
            refine CW.ret ?_
            exact absurd (ans_all (t := T) hrep (by omega) (Decidable.not_not.1 (show ¬ ¬ (M.qname = T.qname ∧ M.qtype = T.qtype) by assumption))) (by rw [hans]; decide)
end Go.Proofs.YthcpjcgjmdfpjaaDoor

namespace Go.Proofs.YthcpjcgjmdfpjaaDoor
open Go Go.ChangeShapes Go.WideShapes Go.ChangeAt Go.RowKit
set_option maxRecDepth 100000

theorem transJunk_lifted (os : Os) (started : os.Started) (H : Type) (enc : TypeId × Value → H) :
    ReturnsInHanded {} Tryd.checked os 5 .any (fun w args => (Rows.transJunkSpec.pre enc Tryd.prog Tryd.f5 [] false w args ∧ laidMetH Tryd.prog laidL w) ∧ sizedMet enc Tryd.prog Tryd.f5 (OpenSpec.ofChange Rows.transJunkSpec) false w args)
      (Rows.transJunkSpec.post enc Tryd.prog Tryd.f5 false true false false) := by
  refine law_lifted (s := Rows.transJunkSpec) started Tryd.func5 (by kernel_rfl) rfl (by kernel_rfl) (by kernel_rfl) ?_ ?_
    (ChangeSpec.witness_shaped (enc := enc) (C := Tryd.checked) (os := os) (X := fun w _ => laidMetH Tryd.prog laidL w) false (World.laidAll Tryd.prog os laidL) #[.int .i64 0, .slice none 0 0] 8 (World.laidAll_os _ _ _)
      (World.shaped_of_ZipB (by kernel_rfl) (by kernel_rfl)) (by kernel_rfl) (by kernel_rfl) (by kernel_rfl)
      (by rw [MakeChecks.laidMetH_plain _ _ _ (by kernel_rfl)]; exact laidMet_laidAll _ (by kernel_rfl) (by kernel_rfl))) ?_
  · intro ds hl
    rw [show Tryd.f5.params.size = 2 by rw [Tryd.params5]; rfl] at hl
    obtain ⟨d0, d1, rfl⟩ := list2 hl
    rfl
  · intro W vs ds ps h
    exact trodAll_len h
  intro W base args ds p hval hA hlt hw hG
  rw [Tryd.params5] at hA hval hw
  obtain ⟨v0, v1, d0, d1, p0, p1, rfl, rfl, rfl, h0, h1⟩ := trodAll_two hA
  obtain ⟨n, rfl, rfl, rfl, _⟩ := open_int Tryd.underlying3 (hval 0 3 v0 rfl rfl) h0
  obtain ⟨A, m, c, bs, rfl, hS, hgl⟩ := open_bytes (hval 1 36 v1 rfl rfl) h1
  exact transJunk_any n A m c bs W hS hgl hG

theorem transJunk_joined : joinedFacts Tryd.prog 5 Tryd.f5 Rows.transJunkSpec Rows.transJunkRow = true :=
  joined_of seat_mayEnter seat_lifts seat_make rfl rfl rfl rfl (by kernel_rfl) (by kernel_rfl) (by kernel_rfl) (by kernel_rfl) (by kernel_rfl) (by kernel_rfl) (by kernel_rfl) (by kernel_rfl) (by kernel_rfl) (by kernel_rfl) (by kernel_rfl) (by kernel_rfl) (by kernel_rfl) (by kernel_rfl) (by kernel_rfl) (by kernel_rfl) (by kernel_rfl) (by kernel_rfl) (by kernel_rfl) (by kernel_rfl) (by kernel_rfl) (by kernel_rfl) (by kernel_rfl) (by kernel_rfl) (by kernel_rfl) (by kernel_rfl) (by kernel_rfl) (by kernel_rfl)
theorem transJunk_holds : Rows.TransJunkSaid :=
  OpenClaim.holds_of_wide 5 Tryd.f5 rfl rfl rfl rfl rfl rfl rfl ⟨rfl, rfl, rfl, rfl, rfl⟩ rfl rfl rfl rfl rfl (by kernel_rfl) Tryd.func5 transJunk_joined
    (of_decide_eq_true (by kernel_rfl)) (by unfold Func.isWrapper; first | (rw [if_pos (by decide +kernel)]; kernel_rfl) | (rw [if_neg (by decide +kernel)]; exact ⟨rfl, rfl⟩))
    (fun os started H enc _ => transJunk_lifted os started H enc)
theorem transJunk_card : Rows.TransJunkCardSaid :=
  Claim7.holds_tied_plain_at .later [] [.data] true (true, "6afa14409c1fcf784e159d3dd9af9e0af6fc07a3d3e06aa2c8b4c577951ca517") false transJunk_holds (fun _ h => by cases h) (by kernel_rfl) (fun _ h => by cases h) transJunk_row_tie rfl ⟨rfl, rfl⟩ seat_main rfl
    (fun f fn hf hfn => by
      obtain rfl : f = 5 := Option.some.inj ((show Tryd.prog.funcNamed "nomenclator/nomenclatorlaw13.TransJunk" = some 5 by kernel_rfl).symm.trans hf) |>.symm
      obtain rfl : fn = Tryd.f5 := (Option.some.inj (Tryd.func5.symm.trans hfn)).symm
      exact ⟨by kernel_rfl, fun j t ht => by
        rw [Tryd.params5] at ht
        have hm : t ∈ [3, 36] := by simpa using Array.mem_of_getElem? ht
        have hall : ([3, 36].all fun u => !Tryd.prog.wantsStandIn u) = true := by kernel_rfl
        exact (show Tryd.prog.wantsStandIn t = false by simpa using List.all_eq_true.1 hall t hm)⟩)
    (by kernel_rfl)
end Go.Proofs.YthcpjcgjmdfpjaaDoor
