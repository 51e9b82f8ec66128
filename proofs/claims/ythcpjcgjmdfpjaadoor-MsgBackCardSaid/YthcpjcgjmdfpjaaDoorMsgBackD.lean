/- Words and walks for the statement MsgBack, part 4 of 5: Match, Fit13, Same, TBuild, Ops7, Light, Record. -/
import Derived.Lib.Bytealg
import Derived.Laws.OwnMore
import Derived.Test.YthcpjcgjmdfpjaaDoorMsgBackC
namespace Go.Proofs.YthcpjcgjmdfpjaaDoor
open Go Go.RowKit
set_option maxRecDepth 100000
set_option maxHeartbeats 4000000

/-- Does it come where it is waited for? -/
def passT (t : Tr) (link gen : Int) (frm : List UInt8) (port : Int) : Bool := decide (link = t.link) && decide (gen = t.gen) && decide (port = t.port) && (t.group || decide (frm = t.to))
/-- Does it answer? -/
def ansT (t : Tr) (m : Msg) : Bool := m.reply && decide (m.id = t.id) && decide (m.qname = t.qname) && decide (m.qtype = t.qtype)
def MatchRes (t : Tr) (link gen : Int) (frm : List UInt8) (port : Int) (base : Nat) (res : Option Msg) (e : Ending) (w : World) : Prop :=
  match res with
  | some m => if passT t link gen frm port = true then ∃ v, e = .returned (.tuple #[v, .bool (ansT t m)]) ∧ MVF base w v m else e = .returned (.tuple #[zeroMV, .bool false])
  | none => e = .returned (.tuple #[zeroMV, .bool false])
theorem ans4 {a : Bool} {p q : Prop} : a = false ∨ (a = true ∧ ¬ p) ∨ (a = true ∧ p ∧ ¬ q) ∨ (a = true ∧ p ∧ q) := by
  cases a <;> by_cases hp : p <;> by_cases hq : q <;> simp [hp, hq]
theorem match_any (t : Tr) (link gen : Int) (frm : List UInt8) (port : Int) (A : Option Addr) (m c : Nat) (bs : List UInt8) (w : World) (h16 : t.to.length = 16) (hf16 : frm.length = 16) (hS : Src w A m c bs) (hgl : ∀ g o, A = some ⟨g, o, none⟩ → g < w.heap.size) (hm : m ≤ 1099511627776) (hG : Glob w) :
    Calls Tryd.prog 23 #[t.val, .int .i64 link, .int .i64 gen, .agg (frm.map u8v).toArray, .int .i64 port, .slice A m c] w fun e w' => Chg (fun _ => False) w w' ∧ MatchRes t link gen frm port w.heap.size (decode bs) e w' := by
  refine calls_cw (args := [t.val, .int .i64 link, .int .i64 gen, .agg (frm.map u8v).toArray, .int .i64 port, .slice A m c]) Tryd.func23 rfl rfl ?_
  show CW _ _ _ 70 [(0, t.val), (1, .int .i64 link), (2, .int .i64 gen), (3, .agg (frm.map u8v).toArray), (4, .int .i64 port), (5, .slice A m c)] w
  refine CW.rseq ?_
  refine WL.eff rfl (OP.box (by decide) rfl ?_)
  intro w1 hc1 hs1 hT0
  obtain ⟨bt, he_bt⟩ : ∃ b, b = w.heap.size := ⟨_, rfl⟩
  have hT : w1.heap[bt]? = some (.cells t.cells.toArray 29 (0, 0)) := by rw [he_bt]; exact hT0
  rw [← he_bt]
  refine WL.eff rfl (OP.box (by decide) rfl ?_)
  intro w2 hc2 hs2 hF0
  obtain ⟨bf, he_bf⟩ : ∃ b, b = w1.heap.size := ⟨_, rfl⟩
  have hF : w2.heap[bf]? = some (.cells (frm.map u8v).toArray 27 (0, 0)) := by rw [he_bf]; exact hF0
  rw [← he_bf]
  have hT := hc2.at hT (fun e => e)
  refine WL.eff rfl (OP.alloc1 (.agg (Msg.cells ⟨0, false, false, false, 0, [], 0, [], []⟩ (.slice none 0 0) (.slice none 0 0)).toArray) (by decide) (by kernel_rfl) ?_)
  intro w3 hc3 hs3 hR0
  obtain ⟨br, he_br⟩ : ∃ b, b = w2.heap.size := ⟨_, rfl⟩
  have hR : w3.heap[br]? = some (.cells (Msg.cells ⟨0, false, false, false, 0, [], 0, [], []⟩ (.slice none 0 0) (.slice none 0 0)).toArray 33 (0, 0)) := by rw [he_br]; exact hR0
  rw [← he_br]
  have hT := hc3.at hT (fun e => e)
  have hF := hc3.at hF (fun e => e)
  have hc13 : Chg (fun _ => False) w w3 := (hc1.trans hc2).trans hc3
  refine WL.op (by decide) (R.assign rfl) ?_
  refine WL.next ?_
  refine CW.rseq ?_
  refine WL.op (by decide) (R.move rfl) ?_
  refine WL.eff rfl (OP.call (by decide) Tryd.func27 (by kernel_rfl) (by kernel_rfl) rfl (decode_any A m c bs w3 (hS.kept hc13 (fun _ _ _ e => e)) (fun g o h => by have := hgl g o h; omega) hm (hG.kept hc13 (fun e => e))) ?_)
  rintro ed w4 ⟨hc4, hres⟩
  have hz4 := hc4.size
  have hT := hc4.at hT (fun e => e)
  have hF := hc4.at hF (fun e => e)
  have hR := hc4.at hR (fun e => e)
  have hC := hc13.trans hc4
  cases hd : decode bs
  · skip
    rw [hd] at hres
    obtain rfl := hres
    refine ⟨_, rfl, ?_⟩
    refine WL.op (by decide) (R.move rfl) ?_
    refine WL.op (by decide) (R.extract rfl rfl) ?_
    refine WL.op (by decide) (R.extract rfl rfl) ?_
    refine WL.eff rfl (OP.alloc1 (.agg (Msg.cells ⟨0, false, false, false, 0, [], 0, [], []⟩ (.slice none 0 0) (.slice none 0 0)).toArray) (by decide) (by kernel_rfl) ?_)
    intro w5 hc5 hs5 hB0
    obtain ⟨bm, he_bm⟩ : ∃ b, b = w4.heap.size := ⟨_, rfl⟩
    have hBm : w5.heap[bm]? = some (.cells (Msg.cells ⟨0, false, false, false, 0, [], 0, [], []⟩ (.slice none 0 0) (.slice none 0 0)).toArray 33 (0, 0)) := by rw [he_bm]; exact hB0
    rw [← he_bm]
    have hT := hc5.at hT (fun e => e)
    have hF := hc5.at hF (fun e => e)
    have hR := hc5.at hR (fun e => e)
    have hC := hC.trans hc5
    refine WL.eff rfl (OP.storeAgg inf33.choose_spec.1 (by rw [inf33.choose_spec.2]; rfl) rfl rfl (m_all _ _ _ _ _ _ _) hBm rfl ?_)
    intro w6 hc6 hs6 hBm
    have hT := hc6.at hT (fun e => by omega)
    have hF := hc6.at hF (fun e => by omega)
    have hR := hc6.at hR (fun e => by omega)
    have hC := hC.then hc6 (fun k hk e => by omega)
    have hc46 : Chg (fun _ => False) w4 w6 := hc5.then hc6 (fun k hk e => by omega)
    refine WL.op (by decide) (R.assign rfl) ?_
    refine WL.next ?_
    refine CW.seq ?_
    refine CW.rseq ?_
    refine WL.op (by decide) (R.move rfl) ?_
    refine WL.op (by decide) (R.neq rfl rfl (c := true) (by decide)) ?_
    refine WL.op (by decide) (R.move rfl) ?_
    refine WL.pass (by decide) rfl rfl rfl ?_
    refine WL.pass (by decide) rfl rfl rfl ?_
    refine WL.pass (by decide) rfl rfl rfl ?_
    refine WL.pass (by decide) rfl rfl rfl ?_
    refine WL.op (by decide) (R.pickT rfl rfl) ?_
    refine WL.op (by decide) (R.move rfl) ?_
    refine WL.pass (by decide) rfl rfl rfl ?_
    refine WL.pass (by decide) rfl rfl rfl ?_
    refine WL.pass (by decide) rfl rfl rfl ?_
    refine WL.pass (by decide) rfl rfl rfl ?_
    refine WL.op (by decide) (R.pickT rfl rfl) ?_
    refine WL.op (by decide) (R.move rfl) ?_
    refine WL.pass (by decide) rfl rfl rfl ?_
    refine WL.pass (by decide) rfl rfl rfl ?_
    refine WL.pass (by decide) rfl rfl rfl ?_
    refine WL.pass (by decide) rfl rfl rfl ?_
    refine WL.op (by decide) (R.pickT rfl rfl) ?_
    refine WL.op (by decide) (R.move rfl) ?_
    refine WL.pass (by decide) rfl rfl rfl ?_
    refine WL.pass (by decide) rfl rfl rfl ?_
    refine WL.pass (by decide) rfl rfl rfl ?_
    refine WL.pass (by decide) rfl rfl rfl ?_
    refine WL.passU (by decide) rfl rfl ?_
    refine WL.passU (by decide) rfl rfl ?_
    refine WL.passU (by decide) rfl rfl ?_
    refine WL.passU (by decide) rfl rfl ?_
    refine WL.pass (by decide) rfl rfl rfl ?_
    refine WL.op (by decide) (R.pickT rfl rfl) ?_
    refine WL.next ?_
    refine CW.condT rfl ?_
    refine CW.rseq ?_
    refine WL.op (by decide) (R.build (parts := []) (vals := []) rfl (fun w => build33_0 w)) ?_
    refine WL.eff rfl (OP.storeAgg inf33.choose_spec.1 (by rw [inf33.choose_spec.2]; rfl) rfl rfl (m_all _ _ _ _ _ _ _) hR rfl ?_)
    intro w7 hc7 hs7 hR
    have hC := hC.then hc7 (fun k hk e => by omega)
    refine WL.op (by decide) (R.assign rfl) ?_
    refine WL.next ?_
    refine CW.ret ?_
    refine EW.thenRet ?_
    exact EW.retCT (.inl rfl) rfl rfl rfl (cs := Msg.cells ⟨0, false, false, false, 0, [], 0, [], []⟩ (.slice none 0 0) (.slice none 0 0)) Tryd.underlying33 rfl sz33 (fun j u hj => cell_at hR (by rw [List.getElem?_toArray]; exact hj)) ⟨hC, rfl⟩
  · skip
    rename_i M
    rw [hd] at hres
    obtain ⟨v, rfl, va, vb, rfl, hva, hvb, hfa, hfb⟩ := hres
    obtain ⟨Aa, ca, rfl, _⟩ := hva.form
    obtain ⟨Ab, cb, rfl, _⟩ := hvb.form
    refine ⟨_, rfl, ?_⟩
    refine WL.op (by decide) (R.move rfl) ?_
    refine WL.op (by decide) (R.extract rfl rfl) ?_
    refine WL.op (by decide) (R.extract rfl rfl) ?_
    refine WL.eff rfl (OP.alloc1 (.agg (Msg.cells ⟨0, false, false, false, 0, [], 0, [], []⟩ (.slice none 0 0) (.slice none 0 0)).toArray) (by decide) (by kernel_rfl) ?_)
    intro w5 hc5 hs5 hB0
    obtain ⟨bm, he_bm⟩ : ∃ b, b = w4.heap.size := ⟨_, rfl⟩
    have hBm : w5.heap[bm]? = some (.cells (Msg.cells ⟨0, false, false, false, 0, [], 0, [], []⟩ (.slice none 0 0) (.slice none 0 0)).toArray 33 (0, 0)) := by rw [he_bm]; exact hB0
    rw [← he_bm]
    have hT := hc5.at hT (fun e => e)
    have hF := hc5.at hF (fun e => e)
    have hR := hc5.at hR (fun e => e)
    have hC := hC.trans hc5
    refine WL.eff rfl (OP.storeAgg inf33.choose_spec.1 (by rw [inf33.choose_spec.2]; rfl) rfl rfl (m_all _ _ _ _ _ _ _) hBm rfl ?_)
    intro w6 hc6 hs6 hBm
    have hT := hc6.at hT (fun e => by omega)
    have hF := hc6.at hF (fun e => by omega)
    have hR := hc6.at hR (fun e => by omega)
    have hC := hC.then hc6 (fun k hk e => by omega)
    have hc46 : Chg (fun _ => False) w4 w6 := hc5.then hc6 (fun k hk e => by omega)
    refine WL.op (by decide) (R.assign rfl) ?_
    refine WL.next ?_
    refine CW.seq ?_
    refine CW.rseq ?_
    refine WL.op (by decide) (R.move rfl) ?_
    refine WL.op (by decide) (R.neq rfl rfl (c := false) (by decide)) ?_
    refine WL.op (by decide) (R.move rfl) ?_
    refine WL.gop (by decide) rfl rfl rfl (R.move rfl) ?_
    refine WL.gop (by decide) rfl rfl rfl (FA29_1 rfl) ?_
    refine WL.gop (by decide) rfl rfl rfl (R.load Tryd.underlying3 rfl rfl (cell_at hT rfl)) ?_
    refine WL.gsplit _ (by decide) rfl rfl rfl (R.neqD rfl rfl) (fun h1 => ?_) (fun h1 => ?_)
    · skip
      refine WL.op (by decide) (R.pickF rfl rfl) ?_
      refine WL.op (by decide) (R.move rfl) ?_
      refine WL.pass (by decide) rfl rfl rfl ?_
      refine WL.pass (by decide) rfl rfl rfl ?_
      refine WL.pass (by decide) rfl rfl rfl ?_
      refine WL.pass (by decide) rfl rfl rfl ?_
      refine WL.op (by decide) (R.pickT rfl rfl) ?_
      refine WL.op (by decide) (R.move rfl) ?_
      refine WL.pass (by decide) rfl rfl rfl ?_
      refine WL.pass (by decide) rfl rfl rfl ?_
      refine WL.pass (by decide) rfl rfl rfl ?_
      refine WL.pass (by decide) rfl rfl rfl ?_
      refine WL.op (by decide) (R.pickT rfl rfl) ?_
      refine WL.op (by decide) (R.move rfl) ?_
      refine WL.pass (by decide) rfl rfl rfl ?_
      refine WL.pass (by decide) rfl rfl rfl ?_
      refine WL.pass (by decide) rfl rfl rfl ?_
      refine WL.pass (by decide) rfl rfl rfl ?_
      refine WL.passU (by decide) rfl rfl ?_
      refine WL.passU (by decide) rfl rfl ?_
      refine WL.passU (by decide) rfl rfl ?_
      refine WL.passU (by decide) rfl rfl ?_
      refine WL.pass (by decide) rfl rfl rfl ?_
      refine WL.op (by decide) (R.pickT rfl rfl) ?_
      refine WL.next ?_
      refine CW.condT rfl ?_
      refine CW.rseq ?_
      refine WL.op (by decide) (R.build (parts := []) (vals := []) rfl (fun w => build33_0 w)) ?_
      refine WL.eff rfl (OP.storeAgg inf33.choose_spec.1 (by rw [inf33.choose_spec.2]; rfl) rfl rfl (m_all _ _ _ _ _ _ _) hR rfl ?_)
      intro w7 hc7 hs7 hR
      have hC := hC.then hc7 (fun k hk e => by omega)
      refine WL.op (by decide) (R.assign rfl) ?_
      refine WL.next ?_
      refine CW.ret ?_
      refine EW.thenRet ?_
      exact EW.retCT (.inl rfl) rfl rfl rfl (cs := Msg.cells ⟨0, false, false, false, 0, [], 0, [], []⟩ (.slice none 0 0) (.slice none 0 0)) Tryd.underlying33 rfl sz33 (fun j u hj => cell_at hR (by rw [List.getElem?_toArray]; exact hj)) ⟨hC, by show MatchRes _ _ _ _ _ _ (some M) _ _; unfold MatchRes; simp only; rw [if_neg (by unfold passT; simp [*])]; rfl⟩
    · skip
      refine WL.op (by decide) (R.pickF rfl rfl) ?_
      refine WL.op (by decide) (R.move rfl) ?_
      refine WL.gop (by decide) rfl rfl rfl (R.move rfl) ?_
      refine WL.gop (by decide) rfl rfl rfl (FA29_2 rfl) ?_
      refine WL.gop (by decide) rfl rfl rfl (R.load Tryd.underlying3 rfl rfl (cell_at hT rfl)) ?_
      refine WL.gsplit _ (by decide) rfl rfl rfl (R.neqD rfl rfl) (fun h2 => ?_) (fun h2 => ?_)
      · skip
        refine WL.op (by decide) (R.pickF rfl rfl) ?_
        refine WL.op (by decide) (R.move rfl) ?_
        refine WL.pass (by decide) rfl rfl rfl ?_
        refine WL.pass (by decide) rfl rfl rfl ?_
        refine WL.pass (by decide) rfl rfl rfl ?_
        refine WL.pass (by decide) rfl rfl rfl ?_
        refine WL.op (by decide) (R.pickT rfl rfl) ?_
        refine WL.op (by decide) (R.move rfl) ?_
        refine WL.pass (by decide) rfl rfl rfl ?_
        refine WL.pass (by decide) rfl rfl rfl ?_
        refine WL.pass (by decide) rfl rfl rfl ?_
        refine WL.pass (by decide) rfl rfl rfl ?_
        refine WL.passU (by decide) rfl rfl ?_
        refine WL.passU (by decide) rfl rfl ?_
        refine WL.passU (by decide) rfl rfl ?_
        refine WL.passU (by decide) rfl rfl ?_
        refine WL.pass (by decide) rfl rfl rfl ?_
        refine WL.op (by decide) (R.pickT rfl rfl) ?_
        refine WL.next ?_
        refine CW.condT rfl ?_
        refine CW.rseq ?_
        refine WL.op (by decide) (R.build (parts := []) (vals := []) rfl (fun w => build33_0 w)) ?_
        refine WL.eff rfl (OP.storeAgg inf33.choose_spec.1 (by rw [inf33.choose_spec.2]; rfl) rfl rfl (m_all _ _ _ _ _ _ _) hR rfl ?_)
        intro w7 hc7 hs7 hR
        have hC := hC.then hc7 (fun k hk e => by omega)
        refine WL.op (by decide) (R.assign rfl) ?_
        refine WL.next ?_
        refine CW.ret ?_
        refine EW.thenRet ?_
        exact EW.retCT (.inl rfl) rfl rfl rfl (cs := Msg.cells ⟨0, false, false, false, 0, [], 0, [], []⟩ (.slice none 0 0) (.slice none 0 0)) Tryd.underlying33 rfl sz33 (fun j u hj => cell_at hR (by rw [List.getElem?_toArray]; exact hj)) ⟨hC, by show MatchRes _ _ _ _ _ _ (some M) _ _; unfold MatchRes; simp only; rw [if_neg (by unfold passT; simp [*])]; rfl⟩
      · skip
        refine WL.op (by decide) (R.pickF rfl rfl) ?_
        refine WL.op (by decide) (R.move rfl) ?_
        refine WL.gop (by decide) rfl rfl rfl (R.move rfl) ?_
        refine WL.gop (by decide) rfl rfl rfl (FA29_5 rfl) ?_
        refine WL.gop (by decide) rfl rfl rfl (R.load Tryd.underlying3 rfl rfl (cell_at hT (Tr.at21 h16))) ?_
        refine WL.gsplit _ (by decide) rfl rfl rfl (R.neqD rfl rfl) (fun h3 => ?_) (fun h3 => ?_)
        · skip
          refine WL.op (by decide) (R.pickF rfl rfl) ?_
          refine WL.op (by decide) (R.move rfl) ?_
          refine WL.pass (by decide) rfl rfl rfl ?_
          refine WL.pass (by decide) rfl rfl rfl ?_
          refine WL.pass (by decide) rfl rfl rfl ?_
          refine WL.pass (by decide) rfl rfl rfl ?_
          refine WL.passU (by decide) rfl rfl ?_
          refine WL.passU (by decide) rfl rfl ?_
          refine WL.passU (by decide) rfl rfl ?_
          refine WL.passU (by decide) rfl rfl ?_
          refine WL.pass (by decide) rfl rfl rfl ?_
          refine WL.op (by decide) (R.pickT rfl rfl) ?_
          refine WL.next ?_
          refine CW.condT rfl ?_
          refine CW.rseq ?_
          refine WL.op (by decide) (R.build (parts := []) (vals := []) rfl (fun w => build33_0 w)) ?_
          refine WL.eff rfl (OP.storeAgg inf33.choose_spec.1 (by rw [inf33.choose_spec.2]; rfl) rfl rfl (m_all _ _ _ _ _ _ _) hR rfl ?_)
          intro w7 hc7 hs7 hR
          have hC := hC.then hc7 (fun k hk e => by omega)
          refine WL.op (by decide) (R.assign rfl) ?_
          refine WL.next ?_
          refine CW.ret ?_
          refine EW.thenRet ?_
          exact EW.retCT (.inl rfl) rfl rfl rfl (cs := Msg.cells ⟨0, false, false, false, 0, [], 0, [], []⟩ (.slice none 0 0) (.slice none 0 0)) Tryd.underlying33 rfl sz33 (fun j u hj => cell_at hR (by rw [List.getElem?_toArray]; exact hj)) ⟨hC, by show MatchRes _ _ _ _ _ _ (some M) _ _; unfold MatchRes; simp only; rw [if_neg (by unfold passT; simp [*])]; rfl⟩
        · skip
          refine WL.op (by decide) (R.pickF rfl rfl) ?_
          refine WL.op (by decide) (R.move rfl) ?_
          refine WL.gop (by decide) rfl rfl rfl (FA29_7 rfl) ?_
          cases hgr : t.group
          · skip
            refine WL.gop (by decide) rfl rfl rfl (R.load (v := .bool false) Tryd.underlying4 rfl rfl (cell_at hT ((Tr.at23 h16).trans (by rw [hgr])))) ?_
            refine WL.gop (by decide) rfl rfl rfl (R.not rfl) ?_
            refine WL.gop (by decide) rfl rfl rfl (R.move rfl) ?_
            refine WL.gop (by decide) rfl rfl rfl (R.loadAgg1 (cs := frm.map u8v) Tryd.underlying27 rfl (by rw [List.length_map, hf16]; exact sz27) rfl (fun j u hj => cell_at hF (by rw [Nat.zero_add, List.getElem?_toArray]; exact hj))) ?_
            refine WL.gop (by decide) rfl rfl rfl (FA29_3 rfl) ?_
            refine WL.gop (by decide) rfl rfl rfl (R.loadAgg1 (cs := t.to.map u8v) Tryd.underlying27 rfl (by rw [List.length_map, h16]; exact sz27) rfl (fun j u hj => cell_at hT (by rw [Nat.zero_add]; exact Tr.atTo hj))) ?_
            by_cases hto : frm = t.to
            · skip
              refine WL.gop (by decide) rfl rfl rfl (R.neq27 (c := false) (a := frm) (b := t.to) hf16 h16 rfl rfl (by simp [hto])) ?_
              refine WL.gop (by decide) rfl rfl rfl (R.pickT rfl rfl) ?_
              refine WL.op (by decide) (R.pickF rfl rfl) ?_
              refine WL.next ?_
              refine CW.condF rfl ?_
              refine CW.skip ?_
              refine EW.next ?_
              refine CW.seq ?_
              rcases ans4 (a := M.reply) (p := M.id = t.id) (q := M.qname = t.qname ∧ M.qtype = t.qtype) with h1 | ⟨h1, h2⟩ | ⟨h1, h2, h3⟩ | ⟨h1, h2, h3⟩
              · skip
                refine CW.draw (fun w0 => w0.heap[bm]? = some (.cells (M.cells (.slice Aa M.ans.length ca) (.slice Ab M.auth.length cb)).toArray 33 (0, 0)) ∧ w0.heap[bt]? = some (.cells t.cells.toArray 29 (0, 0))) (by kernel_rfl) ?_
                refine AH.take 0 rfl (by kernel_rfl) (by kernel_rfl) (by kernel_rfl) (fun _ _ _ _ h => h) ⟨hBm, hT⟩ (by decide) (fun w hS => R.loadAgg1 (cs := M.cells (.slice Aa M.ans.length ca) (.slice Ab M.auth.length cb)) Tryd.underlying33 rfl sz33 rfl (fun j u hj => cell_at hS.1 (by rw [Nat.zero_add, List.getElem?_toArray]; exact hj))) ?_
                refine AH.take 1 rfl (by kernel_rfl) (by kernel_rfl) (by kernel_rfl) (fun _ _ _ _ h => h) ⟨hBm, hT⟩ (by decide) (fun w hS => FA33_1 rfl) ?_
                refine AH.take 2 rfl (by kernel_rfl) (by kernel_rfl) (by kernel_rfl) (fun _ _ _ _ h => h) ⟨hBm, hT⟩ (by decide) (fun w hS => R.load (v := .bool false) Tryd.underlying4 rfl rfl (cell_at hS.1 (show _ = some (Value.bool false) from congrArg (fun b => some (Value.bool b)) h1))) ?_
                refine AH.take 3 rfl (by kernel_rfl) (by kernel_rfl) (by kernel_rfl) (fun _ _ _ _ h => h) ⟨hBm, hT⟩ (by decide) (fun w hS => R.move rfl) ?_
                refine AH.pass 4 rfl (by kernel_rfl) (by kernel_rfl) (by kernel_rfl) (fun _ _ _ _ h => h) ⟨hBm, hT⟩ (by decide) rfl rfl rfl ?_
                refine AH.pass 5 rfl (by kernel_rfl) (by kernel_rfl) (by kernel_rfl) (fun _ _ _ _ h => h) ⟨hBm, hT⟩ (by decide) rfl rfl rfl ?_
                refine AH.pass 6 rfl (by kernel_rfl) (by kernel_rfl) (by kernel_rfl) (fun _ _ _ _ h => h) ⟨hBm, hT⟩ (by decide) rfl rfl rfl ?_
                refine AH.pass 7 rfl (by kernel_rfl) (by kernel_rfl) (by kernel_rfl) (fun _ _ _ _ h => h) ⟨hBm, hT⟩ (by decide) rfl rfl rfl ?_
                refine AH.pass 8 rfl (by kernel_rfl) (by kernel_rfl) (by kernel_rfl) (fun _ _ _ _ h => h) ⟨hBm, hT⟩ (by decide) rfl rfl rfl ?_
                refine AH.take 9 rfl (by kernel_rfl) (by kernel_rfl) (by kernel_rfl) (fun _ _ _ _ h => h) ⟨hBm, hT⟩ (by decide) (fun w hS => R.pickF rfl rfl) ?_
                refine AH.take 10 rfl (by kernel_rfl) (by kernel_rfl) (by kernel_rfl) (fun _ _ _ _ h => h) ⟨hBm, hT⟩ (by decide) (fun w hS => R.move rfl) ?_
                refine AH.pass 11 rfl (by kernel_rfl) (by kernel_rfl) (by kernel_rfl) (fun _ _ _ _ h => h) ⟨hBm, hT⟩ (by decide) rfl rfl rfl ?_
                refine AH.pass 12 rfl (by kernel_rfl) (by kernel_rfl) (by kernel_rfl) (fun _ _ _ _ h => h) ⟨hBm, hT⟩ (by decide) rfl rfl rfl ?_
                refine AH.pass 13 rfl (by kernel_rfl) (by kernel_rfl) (by kernel_rfl) (fun _ _ _ _ h => h) ⟨hBm, hT⟩ (by decide) rfl rfl rfl ?_
                refine AH.pass 14 rfl (by kernel_rfl) (by kernel_rfl) (by kernel_rfl) (fun _ _ _ _ h => h) ⟨hBm, hT⟩ (by decide) rfl rfl rfl ?_
                refine AH.pass 15 rfl (by kernel_rfl) (by kernel_rfl) (by kernel_rfl) (fun _ _ _ _ h => h) ⟨hBm, hT⟩ (by decide) rfl rfl rfl ?_
                refine AH.take 16 rfl (by kernel_rfl) (by kernel_rfl) (by kernel_rfl) (fun _ _ _ _ h => h) ⟨hBm, hT⟩ (by decide) (fun w hS => R.pickF rfl rfl) ?_
                refine AH.eff 17 (by kernel_rfl) rfl rfl (OP.storeAgg inf33.choose_spec.1 (by rw [inf33.choose_spec.2]; rfl) rfl rfl (m_all _ _ _ _ _ _ _) hR rfl ?_)
                intro w7 hc7 hs7 hR
                have hC := (hC.trans (Chg.drew _ _)).then hc7 (fun k hk e => by omega)
                have hC2 : Chg (fun k => k = br) w4 w7 := ((hc46.trans (Chg.drew _ _)).mono (fun _ _ e => e.elim)).then hc7 (fun k hk e => e)
                have hS2 := (show _ ∧ _ from ⟨hc7.at hBm (fun e => by omega), hc7.at hT (fun e => by omega)⟩)
                refine ⟨hS2, ?_⟩
                refine AH.take 18 rfl (by kernel_rfl) (by kernel_rfl) (by kernel_rfl) (fun _ _ _ _ h => h) hS2 (by decide) (fun w hS => R.assign rfl) ?_
                refine AH.done (by kernel_rfl) ?_
                have hans : ansT t M = false := by unfold ansT; simp [h1]
                refine EW.next ?_
                refine CW.ret ?_
                exact EW.retCT (.inl rfl) rfl rfl rfl (cs := M.cells (.slice Aa M.ans.length ca) (.slice Ab M.auth.length cb)) Tryd.underlying33 rfl sz33 (fun j u hj => cell_at hR (by rw [List.getElem?_toArray]; exact hj)) ⟨hC, by show MatchRes _ _ _ _ _ _ (some M) _ _; unfold MatchRes; simp only; rw [if_pos (by unfold passT; rw [decide_eq_true (show link = t.link by omega), decide_eq_true (show gen = t.gen by omega), decide_eq_true (show port = t.port by omega)]; simp [*])]; exact ⟨_, by rw [show ansT t M = _ from hans], _, _, rfl, hva.kept hC2 (fun k hk e => by have := hfa k hk; omega), hvb.kept hC2 (fun k hk e => by have := hfb k hk; omega), fun k hk => by have := hfa k hk; have := hc13.size; omega, fun k hk => by have := hfb k hk; have := hc13.size; omega⟩⟩
              · skip
                refine CW.draw (fun w0 => w0.heap[bm]? = some (.cells (M.cells (.slice Aa M.ans.length ca) (.slice Ab M.auth.length cb)).toArray 33 (0, 0)) ∧ w0.heap[bt]? = some (.cells t.cells.toArray 29 (0, 0))) (by kernel_rfl) ?_
                refine AH.take 0 rfl (by kernel_rfl) (by kernel_rfl) (by kernel_rfl) (fun _ _ _ _ h => h) ⟨hBm, hT⟩ (by decide) (fun w hS => R.loadAgg1 (cs := M.cells (.slice Aa M.ans.length ca) (.slice Ab M.auth.length cb)) Tryd.underlying33 rfl sz33 rfl (fun j u hj => cell_at hS.1 (by rw [Nat.zero_add, List.getElem?_toArray]; exact hj))) ?_
                refine AH.take 1 rfl (by kernel_rfl) (by kernel_rfl) (by kernel_rfl) (fun _ _ _ _ h => h) ⟨hBm, hT⟩ (by decide) (fun w hS => FA33_1 rfl) ?_
                refine AH.take 2 rfl (by kernel_rfl) (by kernel_rfl) (by kernel_rfl) (fun _ _ _ _ h => h) ⟨hBm, hT⟩ (by decide) (fun w hS => R.load (v := .bool true) Tryd.underlying4 rfl rfl (cell_at hS.1 (show _ = some (Value.bool true) from congrArg (fun b => some (Value.bool b)) h1))) ?_
                refine AH.take 3 rfl (by kernel_rfl) (by kernel_rfl) (by kernel_rfl) (fun _ _ _ _ h => h) ⟨hBm, hT⟩ (by decide) (fun w hS => R.move rfl) ?_
                refine AH.takeG 4 rfl (by kernel_rfl) (by kernel_rfl) (by kernel_rfl) (fun _ _ _ _ h => h) ⟨hBm, hT⟩ (by decide) rfl rfl rfl (fun w hS => FA33_0 rfl) ?_
                refine AH.takeG 5 rfl (by kernel_rfl) (by kernel_rfl) (by kernel_rfl) (fun _ _ _ _ h => h) ⟨hBm, hT⟩ (by decide) rfl rfl rfl (fun w hS => R.load Tryd.underlying3 rfl rfl (cell_at hS.1 rfl)) ?_
                refine AH.takeG 6 rfl (by kernel_rfl) (by kernel_rfl) (by kernel_rfl) (fun _ _ _ _ h => h) ⟨hBm, hT⟩ (by decide) rfl rfl rfl (fun w hS => FA29_4 rfl) ?_
                refine AH.takeG 7 rfl (by kernel_rfl) (by kernel_rfl) (by kernel_rfl) (fun _ _ _ _ h => h) ⟨hBm, hT⟩ (by decide) rfl rfl rfl (fun w hS => R.load Tryd.underlying3 rfl rfl (cell_at hS.2 (Tr.at20 h16))) ?_
                refine AH.takeG 8 rfl (by kernel_rfl) (by kernel_rfl) (by kernel_rfl) (fun _ _ _ _ h => h) ⟨hBm, hT⟩ (by decide) rfl rfl rfl (fun w hS => R.eql rfl rfl (decide_eq_false h2)) ?_
                refine AH.take 9 rfl (by kernel_rfl) (by kernel_rfl) (by kernel_rfl) (fun _ _ _ _ h => h) ⟨hBm, hT⟩ (by decide) (fun w hS => R.pickT rfl rfl) ?_
                refine AH.take 10 rfl (by kernel_rfl) (by kernel_rfl) (by kernel_rfl) (fun _ _ _ _ h => h) ⟨hBm, hT⟩ (by decide) (fun w hS => R.move rfl) ?_
                refine AH.pass 11 rfl (by kernel_rfl) (by kernel_rfl) (by kernel_rfl) (fun _ _ _ _ h => h) ⟨hBm, hT⟩ (by decide) rfl rfl rfl ?_
                refine AH.pass 12 rfl (by kernel_rfl) (by kernel_rfl) (by kernel_rfl) (fun _ _ _ _ h => h) ⟨hBm, hT⟩ (by decide) rfl rfl rfl ?_
                refine AH.pass 13 rfl (by kernel_rfl) (by kernel_rfl) (by kernel_rfl) (fun _ _ _ _ h => h) ⟨hBm, hT⟩ (by decide) rfl rfl rfl ?_
                refine AH.pass 14 rfl (by kernel_rfl) (by kernel_rfl) (by kernel_rfl) (fun _ _ _ _ h => h) ⟨hBm, hT⟩ (by decide) rfl rfl rfl ?_
                refine AH.pass 15 rfl (by kernel_rfl) (by kernel_rfl) (by kernel_rfl) (fun _ _ _ _ h => h) ⟨hBm, hT⟩ (by decide) rfl rfl rfl ?_
                refine AH.take 16 rfl (by kernel_rfl) (by kernel_rfl) (by kernel_rfl) (fun _ _ _ _ h => h) ⟨hBm, hT⟩ (by decide) (fun w hS => R.pickF rfl rfl) ?_
                refine AH.eff 17 (by kernel_rfl) rfl rfl (OP.storeAgg inf33.choose_spec.1 (by rw [inf33.choose_spec.2]; rfl) rfl rfl (m_all _ _ _ _ _ _ _) hR rfl ?_)
                intro w7 hc7 hs7 hR
                have hC := (hC.trans (Chg.drew _ _)).then hc7 (fun k hk e => by omega)
                have hC2 : Chg (fun k => k = br) w4 w7 := ((hc46.trans (Chg.drew _ _)).mono (fun _ _ e => e.elim)).then hc7 (fun k hk e => e)
                have hS2 := (show _ ∧ _ from ⟨hc7.at hBm (fun e => by omega), hc7.at hT (fun e => by omega)⟩)
                refine ⟨hS2, ?_⟩
                refine AH.take 18 rfl (by kernel_rfl) (by kernel_rfl) (by kernel_rfl) (fun _ _ _ _ h => h) hS2 (by decide) (fun w hS => R.assign rfl) ?_
                refine AH.done (by kernel_rfl) ?_
                have hans : ansT t M = false := by unfold ansT; simp [h2]
                refine EW.next ?_
                refine CW.ret ?_
                exact EW.retCT (.inl rfl) rfl rfl rfl (cs := M.cells (.slice Aa M.ans.length ca) (.slice Ab M.auth.length cb)) Tryd.underlying33 rfl sz33 (fun j u hj => cell_at hR (by rw [List.getElem?_toArray]; exact hj)) ⟨hC, by show MatchRes _ _ _ _ _ _ (some M) _ _; unfold MatchRes; simp only; rw [if_pos (by unfold passT; rw [decide_eq_true (show link = t.link by omega), decide_eq_true (show gen = t.gen by omega), decide_eq_true (show port = t.port by omega)]; simp [*])]; exact ⟨_, by rw [show ansT t M = _ from hans], _, _, rfl, hva.kept hC2 (fun k hk e => by have := hfa k hk; omega), hvb.kept hC2 (fun k hk e => by have := hfb k hk; omega), fun k hk => by have := hfa k hk; have := hc13.size; omega, fun k hk => by have := hfb k hk; have := hc13.size; omega⟩⟩
              · skip
                refine CW.draw (fun w0 => w0.heap[bm]? = some (.cells (M.cells (.slice Aa M.ans.length ca) (.slice Ab M.auth.length cb)).toArray 33 (0, 0)) ∧ w0.heap[bt]? = some (.cells t.cells.toArray 29 (0, 0))) (by kernel_rfl) ?_
                refine AH.take 0 rfl (by kernel_rfl) (by kernel_rfl) (by kernel_rfl) (fun _ _ _ _ h => h) ⟨hBm, hT⟩ (by decide) (fun w hS => R.loadAgg1 (cs := M.cells (.slice Aa M.ans.length ca) (.slice Ab M.auth.length cb)) Tryd.underlying33 rfl sz33 rfl (fun j u hj => cell_at hS.1 (by rw [Nat.zero_add, List.getElem?_toArray]; exact hj))) ?_
                refine AH.take 1 rfl (by kernel_rfl) (by kernel_rfl) (by kernel_rfl) (fun _ _ _ _ h => h) ⟨hBm, hT⟩ (by decide) (fun w hS => FA33_1 rfl) ?_
                refine AH.take 2 rfl (by kernel_rfl) (by kernel_rfl) (by kernel_rfl) (fun _ _ _ _ h => h) ⟨hBm, hT⟩ (by decide) (fun w hS => R.load (v := .bool true) Tryd.underlying4 rfl rfl (cell_at hS.1 (show _ = some (Value.bool true) from congrArg (fun b => some (Value.bool b)) h1))) ?_
                refine AH.take 3 rfl (by kernel_rfl) (by kernel_rfl) (by kernel_rfl) (fun _ _ _ _ h => h) ⟨hBm, hT⟩ (by decide) (fun w hS => R.move rfl) ?_
                refine AH.takeG 4 rfl (by kernel_rfl) (by kernel_rfl) (by kernel_rfl) (fun _ _ _ _ h => h) ⟨hBm, hT⟩ (by decide) rfl rfl rfl (fun w hS => FA33_0 rfl) ?_
                refine AH.takeG 5 rfl (by kernel_rfl) (by kernel_rfl) (by kernel_rfl) (fun _ _ _ _ h => h) ⟨hBm, hT⟩ (by decide) rfl rfl rfl (fun w hS => R.load Tryd.underlying3 rfl rfl (cell_at hS.1 rfl)) ?_
                refine AH.takeG 6 rfl (by kernel_rfl) (by kernel_rfl) (by kernel_rfl) (fun _ _ _ _ h => h) ⟨hBm, hT⟩ (by decide) rfl rfl rfl (fun w hS => FA29_4 rfl) ?_
                refine AH.takeG 7 rfl (by kernel_rfl) (by kernel_rfl) (by kernel_rfl) (fun _ _ _ _ h => h) ⟨hBm, hT⟩ (by decide) rfl rfl rfl (fun w hS => R.load Tryd.underlying3 rfl rfl (cell_at hS.2 (Tr.at20 h16))) ?_
                refine AH.takeG 8 rfl (by kernel_rfl) (by kernel_rfl) (by kernel_rfl) (fun _ _ _ _ h => h) ⟨hBm, hT⟩ (by decide) rfl rfl rfl (fun w hS => R.eql rfl rfl (decide_eq_true h2)) ?_
                refine AH.take 9 rfl (by kernel_rfl) (by kernel_rfl) (by kernel_rfl) (fun _ _ _ _ h => h) ⟨hBm, hT⟩ (by decide) (fun w hS => R.pickT rfl rfl) ?_
                refine AH.take 10 rfl (by kernel_rfl) (by kernel_rfl) (by kernel_rfl) (fun _ _ _ _ h => h) ⟨hBm, hT⟩ (by decide) (fun w hS => R.move rfl) ?_
                refine AH.takeG 11 rfl (by kernel_rfl) (by kernel_rfl) (by kernel_rfl) (fun _ _ _ _ h => h) ⟨hBm, hT⟩ (by decide) rfl rfl rfl (fun w hS => FA33_5 rfl) ?_
                refine AH.takeG 12 rfl (by kernel_rfl) (by kernel_rfl) (by kernel_rfl) (fun _ _ _ _ h => h) ⟨hBm, hT⟩ (by decide) rfl rfl rfl (fun w hS => R.loadAgg1 (cs := [sv M.qname, .int .i64 M.qtype]) Tryd.underlying25 rfl sz25 rfl (fun j u hj => cell_at hS.1 (by match j, hj with | 0, hj => exact hj | 1, hj => exact hj))) ?_
                refine AH.takeG 13 rfl (by kernel_rfl) (by kernel_rfl) (by kernel_rfl) (fun _ _ _ _ h => h) ⟨hBm, hT⟩ (by decide) rfl rfl rfl (fun w hS => FA29_0 rfl) ?_
                refine AH.takeG 14 rfl (by kernel_rfl) (by kernel_rfl) (by kernel_rfl) (fun _ _ _ _ h => h) ⟨hBm, hT⟩ (by decide) rfl rfl rfl (fun w hS => R.loadAgg1 (cs := [sv t.qname, .int .i64 t.qtype]) Tryd.underlying25 rfl sz25 rfl (fun j u hj => cell_at hS.2 (by match j, hj with | 0, hj => exact hj | 1, hj => exact hj))) ?_
                refine AH.takeG 15 rfl (by kernel_rfl) (by kernel_rfl) (by kernel_rfl) (fun _ _ _ _ h => h) ⟨hBm, hT⟩ (by decide) rfl rfl rfl (fun w hS => R.eql25 (a := M.qname) (b := t.qname) (m := M.qtype) (n := t.qtype) rfl rfl (decide_eq_false h3)) ?_
                refine AH.take 16 rfl (by kernel_rfl) (by kernel_rfl) (by kernel_rfl) (fun _ _ _ _ h => h) ⟨hBm, hT⟩ (by decide) (fun w hS => R.pickT rfl rfl) ?_
                refine AH.eff 17 (by kernel_rfl) rfl rfl (OP.storeAgg inf33.choose_spec.1 (by rw [inf33.choose_spec.2]; rfl) rfl rfl (m_all _ _ _ _ _ _ _) hR rfl ?_)
                intro w7 hc7 hs7 hR
                have hC := (hC.trans (Chg.drew _ _)).then hc7 (fun k hk e => by omega)
                have hC2 : Chg (fun k => k = br) w4 w7 := ((hc46.trans (Chg.drew _ _)).mono (fun _ _ e => e.elim)).then hc7 (fun k hk e => e)
                have hS2 := (show _ ∧ _ from ⟨hc7.at hBm (fun e => by omega), hc7.at hT (fun e => by omega)⟩)
                refine ⟨hS2, ?_⟩
                refine AH.take 18 rfl (by kernel_rfl) (by kernel_rfl) (by kernel_rfl) (fun _ _ _ _ h => h) hS2 (by decide) (fun w hS => R.assign rfl) ?_
                refine AH.done (by kernel_rfl) ?_
                have hans : ansT t M = false := by unfold ansT; simp; intro _ _ h4; exact fun h5 => h3 ⟨h4, h5⟩
                refine EW.next ?_
                refine CW.ret ?_
                exact EW.retCT (.inl rfl) rfl rfl rfl (cs := M.cells (.slice Aa M.ans.length ca) (.slice Ab M.auth.length cb)) Tryd.underlying33 rfl sz33 (fun j u hj => cell_at hR (by rw [List.getElem?_toArray]; exact hj)) ⟨hC, by show MatchRes _ _ _ _ _ _ (some M) _ _; unfold MatchRes; simp only; rw [if_pos (by unfold passT; rw [decide_eq_true (show link = t.link by omega), decide_eq_true (show gen = t.gen by omega), decide_eq_true (show port = t.port by omega)]; simp [*])]; exact ⟨_, by rw [show ansT t M = _ from hans], _, _, rfl, hva.kept hC2 (fun k hk e => by have := hfa k hk; omega), hvb.kept hC2 (fun k hk e => by have := hfb k hk; omega), fun k hk => by have := hfa k hk; have := hc13.size; omega, fun k hk => by have := hfb k hk; have := hc13.size; omega⟩⟩
              · skip
                refine CW.draw (fun w0 => w0.heap[bm]? = some (.cells (M.cells (.slice Aa M.ans.length ca) (.slice Ab M.auth.length cb)).toArray 33 (0, 0)) ∧ w0.heap[bt]? = some (.cells t.cells.toArray 29 (0, 0))) (by kernel_rfl) ?_
                refine AH.take 0 rfl (by kernel_rfl) (by kernel_rfl) (by kernel_rfl) (fun _ _ _ _ h => h) ⟨hBm, hT⟩ (by decide) (fun w hS => R.loadAgg1 (cs := M.cells (.slice Aa M.ans.length ca) (.slice Ab M.auth.length cb)) Tryd.underlying33 rfl sz33 rfl (fun j u hj => cell_at hS.1 (by rw [Nat.zero_add, List.getElem?_toArray]; exact hj))) ?_
                refine AH.take 1 rfl (by kernel_rfl) (by kernel_rfl) (by kernel_rfl) (fun _ _ _ _ h => h) ⟨hBm, hT⟩ (by decide) (fun w hS => FA33_1 rfl) ?_
                refine AH.take 2 rfl (by kernel_rfl) (by kernel_rfl) (by kernel_rfl) (fun _ _ _ _ h => h) ⟨hBm, hT⟩ (by decide) (fun w hS => R.load (v := .bool true) Tryd.underlying4 rfl rfl (cell_at hS.1 (show _ = some (Value.bool true) from congrArg (fun b => some (Value.bool b)) h1))) ?_
                refine AH.take 3 rfl (by kernel_rfl) (by kernel_rfl) (by kernel_rfl) (fun _ _ _ _ h => h) ⟨hBm, hT⟩ (by decide) (fun w hS => R.move rfl) ?_
                refine AH.takeG 4 rfl (by kernel_rfl) (by kernel_rfl) (by kernel_rfl) (fun _ _ _ _ h => h) ⟨hBm, hT⟩ (by decide) rfl rfl rfl (fun w hS => FA33_0 rfl) ?_
                refine AH.takeG 5 rfl (by kernel_rfl) (by kernel_rfl) (by kernel_rfl) (fun _ _ _ _ h => h) ⟨hBm, hT⟩ (by decide) rfl rfl rfl (fun w hS => R.load Tryd.underlying3 rfl rfl (cell_at hS.1 rfl)) ?_
                refine AH.takeG 6 rfl (by kernel_rfl) (by kernel_rfl) (by kernel_rfl) (fun _ _ _ _ h => h) ⟨hBm, hT⟩ (by decide) rfl rfl rfl (fun w hS => FA29_4 rfl) ?_
                refine AH.takeG 7 rfl (by kernel_rfl) (by kernel_rfl) (by kernel_rfl) (fun _ _ _ _ h => h) ⟨hBm, hT⟩ (by decide) rfl rfl rfl (fun w hS => R.load Tryd.underlying3 rfl rfl (cell_at hS.2 (Tr.at20 h16))) ?_
                refine AH.takeG 8 rfl (by kernel_rfl) (by kernel_rfl) (by kernel_rfl) (fun _ _ _ _ h => h) ⟨hBm, hT⟩ (by decide) rfl rfl rfl (fun w hS => R.eql rfl rfl (decide_eq_true h2)) ?_
                refine AH.take 9 rfl (by kernel_rfl) (by kernel_rfl) (by kernel_rfl) (fun _ _ _ _ h => h) ⟨hBm, hT⟩ (by decide) (fun w hS => R.pickT rfl rfl) ?_
                refine AH.take 10 rfl (by kernel_rfl) (by kernel_rfl) (by kernel_rfl) (fun _ _ _ _ h => h) ⟨hBm, hT⟩ (by decide) (fun w hS => R.move rfl) ?_
                refine AH.takeG 11 rfl (by kernel_rfl) (by kernel_rfl) (by kernel_rfl) (fun _ _ _ _ h => h) ⟨hBm, hT⟩ (by decide) rfl rfl rfl (fun w hS => FA33_5 rfl) ?_
                refine AH.takeG 12 rfl (by kernel_rfl) (by kernel_rfl) (by kernel_rfl) (fun _ _ _ _ h => h) ⟨hBm, hT⟩ (by decide) rfl rfl rfl (fun w hS => R.loadAgg1 (cs := [sv M.qname, .int .i64 M.qtype]) Tryd.underlying25 rfl sz25 rfl (fun j u hj => cell_at hS.1 (by match j, hj with | 0, hj => exact hj | 1, hj => exact hj))) ?_
                refine AH.takeG 13 rfl (by kernel_rfl) (by kernel_rfl) (by kernel_rfl) (fun _ _ _ _ h => h) ⟨hBm, hT⟩ (by decide) rfl rfl rfl (fun w hS => FA29_0 rfl) ?_
                refine AH.takeG 14 rfl (by kernel_rfl) (by kernel_rfl) (by kernel_rfl) (fun _ _ _ _ h => h) ⟨hBm, hT⟩ (by decide) rfl rfl rfl (fun w hS => R.loadAgg1 (cs := [sv t.qname, .int .i64 t.qtype]) Tryd.underlying25 rfl sz25 rfl (fun j u hj => cell_at hS.2 (by match j, hj with | 0, hj => exact hj | 1, hj => exact hj))) ?_
                refine AH.takeG 15 rfl (by kernel_rfl) (by kernel_rfl) (by kernel_rfl) (fun _ _ _ _ h => h) ⟨hBm, hT⟩ (by decide) rfl rfl rfl (fun w hS => R.eql25 (a := M.qname) (b := t.qname) (m := M.qtype) (n := t.qtype) rfl rfl (decide_eq_true h3)) ?_
                refine AH.take 16 rfl (by kernel_rfl) (by kernel_rfl) (by kernel_rfl) (fun _ _ _ _ h => h) ⟨hBm, hT⟩ (by decide) (fun w hS => R.pickT rfl rfl) ?_
                refine AH.eff 17 (by kernel_rfl) rfl rfl (OP.storeAgg inf33.choose_spec.1 (by rw [inf33.choose_spec.2]; rfl) rfl rfl (m_all _ _ _ _ _ _ _) hR rfl ?_)
                intro w7 hc7 hs7 hR
                have hC := (hC.trans (Chg.drew _ _)).then hc7 (fun k hk e => by omega)
                have hC2 : Chg (fun k => k = br) w4 w7 := ((hc46.trans (Chg.drew _ _)).mono (fun _ _ e => e.elim)).then hc7 (fun k hk e => e)
                have hS2 := (show _ ∧ _ from ⟨hc7.at hBm (fun e => by omega), hc7.at hT (fun e => by omega)⟩)
                refine ⟨hS2, ?_⟩
                refine AH.take 18 rfl (by kernel_rfl) (by kernel_rfl) (by kernel_rfl) (fun _ _ _ _ h => h) hS2 (by decide) (fun w hS => R.assign rfl) ?_
                refine AH.done (by kernel_rfl) ?_
                have hans : ansT t M = true := by unfold ansT; simp [h1, h2, h3.1, h3.2]
                refine EW.next ?_
                refine CW.ret ?_
                exact EW.retCT (.inl rfl) rfl rfl rfl (cs := M.cells (.slice Aa M.ans.length ca) (.slice Ab M.auth.length cb)) Tryd.underlying33 rfl sz33 (fun j u hj => cell_at hR (by rw [List.getElem?_toArray]; exact hj)) ⟨hC, by show MatchRes _ _ _ _ _ _ (some M) _ _; unfold MatchRes; simp only; rw [if_pos (by unfold passT; rw [decide_eq_true (show link = t.link by omega), decide_eq_true (show gen = t.gen by omega), decide_eq_true (show port = t.port by omega)]; simp [*])]; exact ⟨_, by rw [show ansT t M = _ from hans], _, _, rfl, hva.kept hC2 (fun k hk e => by have := hfa k hk; omega), hvb.kept hC2 (fun k hk e => by have := hfb k hk; omega), fun k hk => by have := hfa k hk; have := hc13.size; omega, fun k hk => by have := hfb k hk; have := hc13.size; omega⟩⟩
            · skip
              refine WL.gop (by decide) rfl rfl rfl (R.neq27 (c := true) (a := frm) (b := t.to) hf16 h16 rfl rfl (by simp [hto])) ?_
              refine WL.gop (by decide) rfl rfl rfl (R.pickT rfl rfl) ?_
              refine WL.op (by decide) (R.pickF rfl rfl) ?_
              refine WL.next ?_
              refine CW.condT rfl ?_
              refine CW.rseq ?_
              refine WL.op (by decide) (R.build (parts := []) (vals := []) rfl (fun w => build33_0 w)) ?_
              refine WL.eff rfl (OP.storeAgg inf33.choose_spec.1 (by rw [inf33.choose_spec.2]; rfl) rfl rfl (m_all _ _ _ _ _ _ _) hR rfl ?_)
              intro w7 hc7 hs7 hR
              have hC := hC.then hc7 (fun k hk e => by omega)
              refine WL.op (by decide) (R.assign rfl) ?_
              refine WL.next ?_
              refine CW.ret ?_
              refine EW.thenRet ?_
              exact EW.retCT (.inl rfl) rfl rfl rfl (cs := Msg.cells ⟨0, false, false, false, 0, [], 0, [], []⟩ (.slice none 0 0) (.slice none 0 0)) Tryd.underlying33 rfl sz33 (fun j u hj => cell_at hR (by rw [List.getElem?_toArray]; exact hj)) ⟨hC, by show MatchRes _ _ _ _ _ _ (some M) _ _; unfold MatchRes; simp only; rw [if_neg (by unfold passT; simp [*])]; rfl⟩
          · skip
            refine WL.gop (by decide) rfl rfl rfl (R.load (v := .bool true) Tryd.underlying4 rfl rfl (cell_at hT ((Tr.at23 h16).trans (by rw [hgr])))) ?_
            refine WL.gop (by decide) rfl rfl rfl (R.not rfl) ?_
            refine WL.gop (by decide) rfl rfl rfl (R.move rfl) ?_
            refine WL.pass (by decide) rfl rfl rfl ?_
            refine WL.pass (by decide) rfl rfl rfl ?_
            refine WL.pass (by decide) rfl rfl rfl ?_
            refine WL.pass (by decide) rfl rfl rfl ?_
            refine WL.gop (by decide) rfl rfl rfl (R.pickF rfl rfl) ?_
            refine WL.op (by decide) (R.pickF rfl rfl) ?_
            refine WL.next ?_
            refine CW.condF rfl ?_
            refine CW.skip ?_
            refine EW.next ?_
            refine CW.seq ?_
            rcases ans4 (a := M.reply) (p := M.id = t.id) (q := M.qname = t.qname ∧ M.qtype = t.qtype) with h1 | ⟨h1, h2⟩ | ⟨h1, h2, h3⟩ | ⟨h1, h2, h3⟩
            · skip
              refine CW.draw (fun w0 => w0.heap[bm]? = some (.cells (M.cells (.slice Aa M.ans.length ca) (.slice Ab M.auth.length cb)).toArray 33 (0, 0)) ∧ w0.heap[bt]? = some (.cells t.cells.toArray 29 (0, 0))) (by kernel_rfl) ?_
              refine AH.take 0 rfl (by kernel_rfl) (by kernel_rfl) (by kernel_rfl) (fun _ _ _ _ h => h) ⟨hBm, hT⟩ (by decide) (fun w hS => R.loadAgg1 (cs := M.cells (.slice Aa M.ans.length ca) (.slice Ab M.auth.length cb)) Tryd.underlying33 rfl sz33 rfl (fun j u hj => cell_at hS.1 (by rw [Nat.zero_add, List.getElem?_toArray]; exact hj))) ?_
              refine AH.take 1 rfl (by kernel_rfl) (by kernel_rfl) (by kernel_rfl) (fun _ _ _ _ h => h) ⟨hBm, hT⟩ (by decide) (fun w hS => FA33_1 rfl) ?_
              refine AH.take 2 rfl (by kernel_rfl) (by kernel_rfl) (by kernel_rfl) (fun _ _ _ _ h => h) ⟨hBm, hT⟩ (by decide) (fun w hS => R.load (v := .bool false) Tryd.underlying4 rfl rfl (cell_at hS.1 (show _ = some (Value.bool false) from congrArg (fun b => some (Value.bool b)) h1))) ?_
              refine AH.take 3 rfl (by kernel_rfl) (by kernel_rfl) (by kernel_rfl) (fun _ _ _ _ h => h) ⟨hBm, hT⟩ (by decide) (fun w hS => R.move rfl) ?_
              refine AH.pass 4 rfl (by kernel_rfl) (by kernel_rfl) (by kernel_rfl) (fun _ _ _ _ h => h) ⟨hBm, hT⟩ (by decide) rfl rfl rfl ?_
              refine AH.pass 5 rfl (by kernel_rfl) (by kernel_rfl) (by kernel_rfl) (fun _ _ _ _ h => h) ⟨hBm, hT⟩ (by decide) rfl rfl rfl ?_
              refine AH.pass 6 rfl (by kernel_rfl) (by kernel_rfl) (by kernel_rfl) (fun _ _ _ _ h => h) ⟨hBm, hT⟩ (by decide) rfl rfl rfl ?_
              refine AH.pass 7 rfl (by kernel_rfl) (by kernel_rfl) (by kernel_rfl) (fun _ _ _ _ h => h) ⟨hBm, hT⟩ (by decide) rfl rfl rfl ?_
              refine AH.pass 8 rfl (by kernel_rfl) (by kernel_rfl) (by kernel_rfl) (fun _ _ _ _ h => h) ⟨hBm, hT⟩ (by decide) rfl rfl rfl ?_
              refine AH.take 9 rfl (by kernel_rfl) (by kernel_rfl) (by kernel_rfl) (fun _ _ _ _ h => h) ⟨hBm, hT⟩ (by decide) (fun w hS => R.pickF rfl rfl) ?_
              refine AH.take 10 rfl (by kernel_rfl) (by kernel_rfl) (by kernel_rfl) (fun _ _ _ _ h => h) ⟨hBm, hT⟩ (by decide) (fun w hS => R.move rfl) ?_
              refine AH.pass 11 rfl (by kernel_rfl) (by kernel_rfl) (by kernel_rfl) (fun _ _ _ _ h => h) ⟨hBm, hT⟩ (by decide) rfl rfl rfl ?_
              refine AH.pass 12 rfl (by kernel_rfl) (by kernel_rfl) (by kernel_rfl) (fun _ _ _ _ h => h) ⟨hBm, hT⟩ (by decide) rfl rfl rfl ?_
              refine AH.pass 13 rfl (by kernel_rfl) (by kernel_rfl) (by kernel_rfl) (fun _ _ _ _ h => h) ⟨hBm, hT⟩ (by decide) rfl rfl rfl ?_
              refine AH.pass 14 rfl (by kernel_rfl) (by kernel_rfl) (by kernel_rfl) (fun _ _ _ _ h => h) ⟨hBm, hT⟩ (by decide) rfl rfl rfl ?_
              refine AH.pass 15 rfl (by kernel_rfl) (by kernel_rfl) (by kernel_rfl) (fun _ _ _ _ h => h) ⟨hBm, hT⟩ (by decide) rfl rfl rfl ?_
              refine AH.take 16 rfl (by kernel_rfl) (by kernel_rfl) (by kernel_rfl) (fun _ _ _ _ h => h) ⟨hBm, hT⟩ (by decide) (fun w hS => R.pickF rfl rfl) ?_
              refine AH.eff 17 (by kernel_rfl) rfl rfl (OP.storeAgg inf33.choose_spec.1 (by rw [inf33.choose_spec.2]; rfl) rfl rfl (m_all _ _ _ _ _ _ _) hR rfl ?_)
              intro w7 hc7 hs7 hR
              have hC := (hC.trans (Chg.drew _ _)).then hc7 (fun k hk e => by omega)
              have hC2 : Chg (fun k => k = br) w4 w7 := ((hc46.trans (Chg.drew _ _)).mono (fun _ _ e => e.elim)).then hc7 (fun k hk e => e)
              have hS2 := (show _ ∧ _ from ⟨hc7.at hBm (fun e => by omega), hc7.at hT (fun e => by omega)⟩)
              refine ⟨hS2, ?_⟩
              refine AH.take 18 rfl (by kernel_rfl) (by kernel_rfl) (by kernel_rfl) (fun _ _ _ _ h => h) hS2 (by decide) (fun w hS => R.assign rfl) ?_
              refine AH.done (by kernel_rfl) ?_
              have hans : ansT t M = false := by unfold ansT; simp [h1]
              refine EW.next ?_
              refine CW.ret ?_
              exact EW.retCT (.inl rfl) rfl rfl rfl (cs := M.cells (.slice Aa M.ans.length ca) (.slice Ab M.auth.length cb)) Tryd.underlying33 rfl sz33 (fun j u hj => cell_at hR (by rw [List.getElem?_toArray]; exact hj)) ⟨hC, by show MatchRes _ _ _ _ _ _ (some M) _ _; unfold MatchRes; simp only; rw [if_pos (by unfold passT; rw [decide_eq_true (show link = t.link by omega), decide_eq_true (show gen = t.gen by omega), decide_eq_true (show port = t.port by omega)]; simp [*])]; exact ⟨_, by rw [show ansT t M = _ from hans], _, _, rfl, hva.kept hC2 (fun k hk e => by have := hfa k hk; omega), hvb.kept hC2 (fun k hk e => by have := hfb k hk; omega), fun k hk => by have := hfa k hk; have := hc13.size; omega, fun k hk => by have := hfb k hk; have := hc13.size; omega⟩⟩
            · skip
              refine CW.draw (fun w0 => w0.heap[bm]? = some (.cells (M.cells (.slice Aa M.ans.length ca) (.slice Ab M.auth.length cb)).toArray 33 (0, 0)) ∧ w0.heap[bt]? = some (.cells t.cells.toArray 29 (0, 0))) (by kernel_rfl) ?_
              refine AH.take 0 rfl (by kernel_rfl) (by kernel_rfl) (by kernel_rfl) (fun _ _ _ _ h => h) ⟨hBm, hT⟩ (by decide) (fun w hS => R.loadAgg1 (cs := M.cells (.slice Aa M.ans.length ca) (.slice Ab M.auth.length cb)) Tryd.underlying33 rfl sz33 rfl (fun j u hj => cell_at hS.1 (by rw [Nat.zero_add, List.getElem?_toArray]; exact hj))) ?_
              refine AH.take 1 rfl (by kernel_rfl) (by kernel_rfl) (by kernel_rfl) (fun _ _ _ _ h => h) ⟨hBm, hT⟩ (by decide) (fun w hS => FA33_1 rfl) ?_
              refine AH.take 2 rfl (by kernel_rfl) (by kernel_rfl) (by kernel_rfl) (fun _ _ _ _ h => h) ⟨hBm, hT⟩ (by decide) (fun w hS => R.load (v := .bool true) Tryd.underlying4 rfl rfl (cell_at hS.1 (show _ = some (Value.bool true) from congrArg (fun b => some (Value.bool b)) h1))) ?_
              refine AH.take 3 rfl (by kernel_rfl) (by kernel_rfl) (by kernel_rfl) (fun _ _ _ _ h => h) ⟨hBm, hT⟩ (by decide) (fun w hS => R.move rfl) ?_
              refine AH.takeG 4 rfl (by kernel_rfl) (by kernel_rfl) (by kernel_rfl) (fun _ _ _ _ h => h) ⟨hBm, hT⟩ (by decide) rfl rfl rfl (fun w hS => FA33_0 rfl) ?_
              refine AH.takeG 5 rfl (by kernel_rfl) (by kernel_rfl) (by kernel_rfl) (fun _ _ _ _ h => h) ⟨hBm, hT⟩ (by decide) rfl rfl rfl (fun w hS => R.load Tryd.underlying3 rfl rfl (cell_at hS.1 rfl)) ?_
              refine AH.takeG 6 rfl (by kernel_rfl) (by kernel_rfl) (by kernel_rfl) (fun _ _ _ _ h => h) ⟨hBm, hT⟩ (by decide) rfl rfl rfl (fun w hS => FA29_4 rfl) ?_
              refine AH.takeG 7 rfl (by kernel_rfl) (by kernel_rfl) (by kernel_rfl) (fun _ _ _ _ h => h) ⟨hBm, hT⟩ (by decide) rfl rfl rfl (fun w hS => R.load Tryd.underlying3 rfl rfl (cell_at hS.2 (Tr.at20 h16))) ?_
              refine AH.takeG 8 rfl (by kernel_rfl) (by kernel_rfl) (by kernel_rfl) (fun _ _ _ _ h => h) ⟨hBm, hT⟩ (by decide) rfl rfl rfl (fun w hS => R.eql rfl rfl (decide_eq_false h2)) ?_
              refine AH.take 9 rfl (by kernel_rfl) (by kernel_rfl) (by kernel_rfl) (fun _ _ _ _ h => h) ⟨hBm, hT⟩ (by decide) (fun w hS => R.pickT rfl rfl) ?_
              refine AH.take 10 rfl (by kernel_rfl) (by kernel_rfl) (by kernel_rfl) (fun _ _ _ _ h => h) ⟨hBm, hT⟩ (by decide) (fun w hS => R.move rfl) ?_
              refine AH.pass 11 rfl (by kernel_rfl) (by kernel_rfl) (by kernel_rfl) (fun _ _ _ _ h => h) ⟨hBm, hT⟩ (by decide) rfl rfl rfl ?_
              refine AH.pass 12 rfl (by kernel_rfl) (by kernel_rfl) (by kernel_rfl) (fun _ _ _ _ h => h) ⟨hBm, hT⟩ (by decide) rfl rfl rfl ?_
              refine AH.pass 13 rfl (by kernel_rfl) (by kernel_rfl) (by kernel_rfl) (fun _ _ _ _ h => h) ⟨hBm, hT⟩ (by decide) rfl rfl rfl ?_
              refine AH.pass 14 rfl (by kernel_rfl) (by kernel_rfl) (by kernel_rfl) (fun _ _ _ _ h => h) ⟨hBm, hT⟩ (by decide) rfl rfl rfl ?_
              refine AH.pass 15 rfl (by kernel_rfl) (by kernel_rfl) (by kernel_rfl) (fun _ _ _ _ h => h) ⟨hBm, hT⟩ (by decide) rfl rfl rfl ?_
              refine AH.take 16 rfl (by kernel_rfl) (by kernel_rfl) (by kernel_rfl) (fun _ _ _ _ h => h) ⟨hBm, hT⟩ (by decide) (fun w hS => R.pickF rfl rfl) ?_
              refine AH.eff 17 (by kernel_rfl) rfl rfl (OP.storeAgg inf33.choose_spec.1 (by rw [inf33.choose_spec.2]; rfl) rfl rfl (m_all _ _ _ _ _ _ _) hR rfl ?_)
              intro w7 hc7 hs7 hR
              have hC := (hC.trans (Chg.drew _ _)).then hc7 (fun k hk e => by omega)
              have hC2 : Chg (fun k => k = br) w4 w7 := ((hc46.trans (Chg.drew _ _)).mono (fun _ _ e => e.elim)).then hc7 (fun k hk e => e)
              have hS2 := (show _ ∧ _ from ⟨hc7.at hBm (fun e => by omega), hc7.at hT (fun e => by omega)⟩)
              refine ⟨hS2, ?_⟩
              refine AH.take 18 rfl (by kernel_rfl) (by kernel_rfl) (by kernel_rfl) (fun _ _ _ _ h => h) hS2 (by decide) (fun w hS => R.assign rfl) ?_
              refine AH.done (by kernel_rfl) ?_
              have hans : ansT t M = false := by unfold ansT; simp [h2]
              refine EW.next ?_
              refine CW.ret ?_
              exact EW.retCT (.inl rfl) rfl rfl rfl (cs := M.cells (.slice Aa M.ans.length ca) (.slice Ab M.auth.length cb)) Tryd.underlying33 rfl sz33 (fun j u hj => cell_at hR (by rw [List.getElem?_toArray]; exact hj)) ⟨hC, by show MatchRes _ _ _ _ _ _ (some M) _ _; unfold MatchRes; simp only; rw [if_pos (by unfold passT; rw [decide_eq_true (show link = t.link by omega), decide_eq_true (show gen = t.gen by omega), decide_eq_true (show port = t.port by omega)]; simp [*])]; exact ⟨_, by rw [show ansT t M = _ from hans], _, _, rfl, hva.kept hC2 (fun k hk e => by have := hfa k hk; omega), hvb.kept hC2 (fun k hk e => by have := hfb k hk; omega), fun k hk => by have := hfa k hk; have := hc13.size; omega, fun k hk => by have := hfb k hk; have := hc13.size; omega⟩⟩
            · skip
              refine CW.draw (fun w0 => w0.heap[bm]? = some (.cells (M.cells (.slice Aa M.ans.length ca) (.slice Ab M.auth.length cb)).toArray 33 (0, 0)) ∧ w0.heap[bt]? = some (.cells t.cells.toArray 29 (0, 0))) (by kernel_rfl) ?_
              refine AH.take 0 rfl (by kernel_rfl) (by kernel_rfl) (by kernel_rfl) (fun _ _ _ _ h => h) ⟨hBm, hT⟩ (by decide) (fun w hS => R.loadAgg1 (cs := M.cells (.slice Aa M.ans.length ca) (.slice Ab M.auth.length cb)) Tryd.underlying33 rfl sz33 rfl (fun j u hj => cell_at hS.1 (by rw [Nat.zero_add, List.getElem?_toArray]; exact hj))) ?_
              refine AH.take 1 rfl (by kernel_rfl) (by kernel_rfl) (by kernel_rfl) (fun _ _ _ _ h => h) ⟨hBm, hT⟩ (by decide) (fun w hS => FA33_1 rfl) ?_
              refine AH.take 2 rfl (by kernel_rfl) (by kernel_rfl) (by kernel_rfl) (fun _ _ _ _ h => h) ⟨hBm, hT⟩ (by decide) (fun w hS => R.load (v := .bool true) Tryd.underlying4 rfl rfl (cell_at hS.1 (show _ = some (Value.bool true) from congrArg (fun b => some (Value.bool b)) h1))) ?_
              refine AH.take 3 rfl (by kernel_rfl) (by kernel_rfl) (by kernel_rfl) (fun _ _ _ _ h => h) ⟨hBm, hT⟩ (by decide) (fun w hS => R.move rfl) ?_
              refine AH.takeG 4 rfl (by kernel_rfl) (by kernel_rfl) (by kernel_rfl) (fun _ _ _ _ h => h) ⟨hBm, hT⟩ (by decide) rfl rfl rfl (fun w hS => FA33_0 rfl) ?_
              refine AH.takeG 5 rfl (by kernel_rfl) (by kernel_rfl) (by kernel_rfl) (fun _ _ _ _ h => h) ⟨hBm, hT⟩ (by decide) rfl rfl rfl (fun w hS => R.load Tryd.underlying3 rfl rfl (cell_at hS.1 rfl)) ?_
              refine AH.takeG 6 rfl (by kernel_rfl) (by kernel_rfl) (by kernel_rfl) (fun _ _ _ _ h => h) ⟨hBm, hT⟩ (by decide) rfl rfl rfl (fun w hS => FA29_4 rfl) ?_
              refine AH.takeG 7 rfl (by kernel_rfl) (by kernel_rfl) (by kernel_rfl) (fun _ _ _ _ h => h) ⟨hBm, hT⟩ (by decide) rfl rfl rfl (fun w hS => R.load Tryd.underlying3 rfl rfl (cell_at hS.2 (Tr.at20 h16))) ?_
              refine AH.takeG 8 rfl (by kernel_rfl) (by kernel_rfl) (by kernel_rfl) (fun _ _ _ _ h => h) ⟨hBm, hT⟩ (by decide) rfl rfl rfl (fun w hS => R.eql rfl rfl (decide_eq_true h2)) ?_
              refine AH.take 9 rfl (by kernel_rfl) (by kernel_rfl) (by kernel_rfl) (fun _ _ _ _ h => h) ⟨hBm, hT⟩ (by decide) (fun w hS => R.pickT rfl rfl) ?_
              refine AH.take 10 rfl (by kernel_rfl) (by kernel_rfl) (by kernel_rfl) (fun _ _ _ _ h => h) ⟨hBm, hT⟩ (by decide) (fun w hS => R.move rfl) ?_
              refine AH.takeG 11 rfl (by kernel_rfl) (by kernel_rfl) (by kernel_rfl) (fun _ _ _ _ h => h) ⟨hBm, hT⟩ (by decide) rfl rfl rfl (fun w hS => FA33_5 rfl) ?_
              refine AH.takeG 12 rfl (by kernel_rfl) (by kernel_rfl) (by kernel_rfl) (fun _ _ _ _ h => h) ⟨hBm, hT⟩ (by decide) rfl rfl rfl (fun w hS => R.loadAgg1 (cs := [sv M.qname, .int .i64 M.qtype]) Tryd.underlying25 rfl sz25 rfl (fun j u hj => cell_at hS.1 (by match j, hj with | 0, hj => exact hj | 1, hj => exact hj))) ?_
              refine AH.takeG 13 rfl (by kernel_rfl) (by kernel_rfl) (by kernel_rfl) (fun _ _ _ _ h => h) ⟨hBm, hT⟩ (by decide) rfl rfl rfl (fun w hS => FA29_0 rfl) ?_
              refine AH.takeG 14 rfl (by kernel_rfl) (by kernel_rfl) (by kernel_rfl) (fun _ _ _ _ h => h) ⟨hBm, hT⟩ (by decide) rfl rfl rfl (fun w hS => R.loadAgg1 (cs := [sv t.qname, .int .i64 t.qtype]) Tryd.underlying25 rfl sz25 rfl (fun j u hj => cell_at hS.2 (by match j, hj with | 0, hj => exact hj | 1, hj => exact hj))) ?_
              refine AH.takeG 15 rfl (by kernel_rfl) (by kernel_rfl) (by kernel_rfl) (fun _ _ _ _ h => h) ⟨hBm, hT⟩ (by decide) rfl rfl rfl (fun w hS => R.eql25 (a := M.qname) (b := t.qname) (m := M.qtype) (n := t.qtype) rfl rfl (decide_eq_false h3)) ?_
              refine AH.take 16 rfl (by kernel_rfl) (by kernel_rfl) (by kernel_rfl) (fun _ _ _ _ h => h) ⟨hBm, hT⟩ (by decide) (fun w hS => R.pickT rfl rfl) ?_
              refine AH.eff 17 (by kernel_rfl) rfl rfl (OP.storeAgg inf33.choose_spec.1 (by rw [inf33.choose_spec.2]; rfl) rfl rfl (m_all _ _ _ _ _ _ _) hR rfl ?_)
              intro w7 hc7 hs7 hR
              have hC := (hC.trans (Chg.drew _ _)).then hc7 (fun k hk e => by omega)
              have hC2 : Chg (fun k => k = br) w4 w7 := ((hc46.trans (Chg.drew _ _)).mono (fun _ _ e => e.elim)).then hc7 (fun k hk e => e)
              have hS2 := (show _ ∧ _ from ⟨hc7.at hBm (fun e => by omega), hc7.at hT (fun e => by omega)⟩)
              refine ⟨hS2, ?_⟩
              refine AH.take 18 rfl (by kernel_rfl) (by kernel_rfl) (by kernel_rfl) (fun _ _ _ _ h => h) hS2 (by decide) (fun w hS => R.assign rfl) ?_
              refine AH.done (by kernel_rfl) ?_
              have hans : ansT t M = false := by unfold ansT; simp; intro _ _ h4; exact fun h5 => h3 ⟨h4, h5⟩
              refine EW.next ?_
              refine CW.ret ?_
              exact EW.retCT (.inl rfl) rfl rfl rfl (cs := M.cells (.slice Aa M.ans.length ca) (.slice Ab M.auth.length cb)) Tryd.underlying33 rfl sz33 (fun j u hj => cell_at hR (by rw [List.getElem?_toArray]; exact hj)) ⟨hC, by show MatchRes _ _ _ _ _ _ (some M) _ _; unfold MatchRes; simp only; rw [if_pos (by unfold passT; rw [decide_eq_true (show link = t.link by omega), decide_eq_true (show gen = t.gen by omega), decide_eq_true (show port = t.port by omega)]; simp [*])]; exact ⟨_, by rw [show ansT t M = _ from hans], _, _, rfl, hva.kept hC2 (fun k hk e => by have := hfa k hk; omega), hvb.kept hC2 (fun k hk e => by have := hfb k hk; omega), fun k hk => by have := hfa k hk; have := hc13.size; omega, fun k hk => by have := hfb k hk; have := hc13.size; omega⟩⟩
            · skip
              refine CW.draw (fun w0 => w0.heap[bm]? = some (.cells (M.cells (.slice Aa M.ans.length ca) (.slice Ab M.auth.length cb)).toArray 33 (0, 0)) ∧ w0.heap[bt]? = some (.cells t.cells.toArray 29 (0, 0))) (by kernel_rfl) ?_
              refine AH.take 0 rfl (by kernel_rfl) (by kernel_rfl) (by kernel_rfl) (fun _ _ _ _ h => h) ⟨hBm, hT⟩ (by decide) (fun w hS => R.loadAgg1 (cs := M.cells (.slice Aa M.ans.length ca) (.slice Ab M.auth.length cb)) Tryd.underlying33 rfl sz33 rfl (fun j u hj => cell_at hS.1 (by rw [Nat.zero_add, List.getElem?_toArray]; exact hj))) ?_
              refine AH.take 1 rfl (by kernel_rfl) (by kernel_rfl) (by kernel_rfl) (fun _ _ _ _ h => h) ⟨hBm, hT⟩ (by decide) (fun w hS => FA33_1 rfl) ?_
              refine AH.take 2 rfl (by kernel_rfl) (by kernel_rfl) (by kernel_rfl) (fun _ _ _ _ h => h) ⟨hBm, hT⟩ (by decide) (fun w hS => R.load (v := .bool true) Tryd.underlying4 rfl rfl (cell_at hS.1 (show _ = some (Value.bool true) from congrArg (fun b => some (Value.bool b)) h1))) ?_
              refine AH.take 3 rfl (by kernel_rfl) (by kernel_rfl) (by kernel_rfl) (fun _ _ _ _ h => h) ⟨hBm, hT⟩ (by decide) (fun w hS => R.move rfl) ?_
              refine AH.takeG 4 rfl (by kernel_rfl) (by kernel_rfl) (by kernel_rfl) (fun _ _ _ _ h => h) ⟨hBm, hT⟩ (by decide) rfl rfl rfl (fun w hS => FA33_0 rfl) ?_
              refine AH.takeG 5 rfl (by kernel_rfl) (by kernel_rfl) (by kernel_rfl) (fun _ _ _ _ h => h) ⟨hBm, hT⟩ (by decide) rfl rfl rfl (fun w hS => R.load Tryd.underlying3 rfl rfl (cell_at hS.1 rfl)) ?_
              refine AH.takeG 6 rfl (by kernel_rfl) (by kernel_rfl) (by kernel_rfl) (fun _ _ _ _ h => h) ⟨hBm, hT⟩ (by decide) rfl rfl rfl (fun w hS => FA29_4 rfl) ?_
              refine AH.takeG 7 rfl (by kernel_rfl) (by kernel_rfl) (by kernel_rfl) (fun _ _ _ _ h => h) ⟨hBm, hT⟩ (by decide) rfl rfl rfl (fun w hS => R.load Tryd.underlying3 rfl rfl (cell_at hS.2 (Tr.at20 h16))) ?_
              refine AH.takeG 8 rfl (by kernel_rfl) (by kernel_rfl) (by kernel_rfl) (fun _ _ _ _ h => h) ⟨hBm, hT⟩ (by decide) rfl rfl rfl (fun w hS => R.eql rfl rfl (decide_eq_true h2)) ?_
              refine AH.take 9 rfl (by kernel_rfl) (by kernel_rfl) (by kernel_rfl) (fun _ _ _ _ h => h) ⟨hBm, hT⟩ (by decide) (fun w hS => R.pickT rfl rfl) ?_
              refine AH.take 10 rfl (by kernel_rfl) (by kernel_rfl) (by kernel_rfl) (fun _ _ _ _ h => h) ⟨hBm, hT⟩ (by decide) (fun w hS => R.move rfl) ?_
              refine AH.takeG 11 rfl (by kernel_rfl) (by kernel_rfl) (by kernel_rfl) (fun _ _ _ _ h => h) ⟨hBm, hT⟩ (by decide) rfl rfl rfl (fun w hS => FA33_5 rfl) ?_
              refine AH.takeG 12 rfl (by kernel_rfl) (by kernel_rfl) (by kernel_rfl) (fun _ _ _ _ h => h) ⟨hBm, hT⟩ (by decide) rfl rfl rfl (fun w hS => R.loadAgg1 (cs := [sv M.qname, .int .i64 M.qtype]) Tryd.underlying25 rfl sz25 rfl (fun j u hj => cell_at hS.1 (by match j, hj with | 0, hj => exact hj | 1, hj => exact hj))) ?_
              refine AH.takeG 13 rfl (by kernel_rfl) (by kernel_rfl) (by kernel_rfl) (fun _ _ _ _ h => h) ⟨hBm, hT⟩ (by decide) rfl rfl rfl (fun w hS => FA29_0 rfl) ?_
              refine AH.takeG 14 rfl (by kernel_rfl) (by kernel_rfl) (by kernel_rfl) (fun _ _ _ _ h => h) ⟨hBm, hT⟩ (by decide) rfl rfl rfl (fun w hS => R.loadAgg1 (cs := [sv t.qname, .int .i64 t.qtype]) Tryd.underlying25 rfl sz25 rfl (fun j u hj => cell_at hS.2 (by match j, hj with | 0, hj => exact hj | 1, hj => exact hj))) ?_
              refine AH.takeG 15 rfl (by kernel_rfl) (by kernel_rfl) (by kernel_rfl) (fun _ _ _ _ h => h) ⟨hBm, hT⟩ (by decide) rfl rfl rfl (fun w hS => R.eql25 (a := M.qname) (b := t.qname) (m := M.qtype) (n := t.qtype) rfl rfl (decide_eq_true h3)) ?_
              refine AH.take 16 rfl (by kernel_rfl) (by kernel_rfl) (by kernel_rfl) (fun _ _ _ _ h => h) ⟨hBm, hT⟩ (by decide) (fun w hS => R.pickT rfl rfl) ?_
              refine AH.eff 17 (by kernel_rfl) rfl rfl (OP.storeAgg inf33.choose_spec.1 (by rw [inf33.choose_spec.2]; rfl) rfl rfl (m_all _ _ _ _ _ _ _) hR rfl ?_)
              intro w7 hc7 hs7 hR
              have hC := (hC.trans (Chg.drew _ _)).then hc7 (fun k hk e => by omega)
              have hC2 : Chg (fun k => k = br) w4 w7 := ((hc46.trans (Chg.drew _ _)).mono (fun _ _ e => e.elim)).then hc7 (fun k hk e => e)
              have hS2 := (show _ ∧ _ from ⟨hc7.at hBm (fun e => by omega), hc7.at hT (fun e => by omega)⟩)
              refine ⟨hS2, ?_⟩
              refine AH.take 18 rfl (by kernel_rfl) (by kernel_rfl) (by kernel_rfl) (fun _ _ _ _ h => h) hS2 (by decide) (fun w hS => R.assign rfl) ?_
              refine AH.done (by kernel_rfl) ?_
              have hans : ansT t M = true := by unfold ansT; simp [h1, h2, h3.1, h3.2]
              refine EW.next ?_
              refine CW.ret ?_
              exact EW.retCT (.inl rfl) rfl rfl rfl (cs := M.cells (.slice Aa M.ans.length ca) (.slice Ab M.auth.length cb)) Tryd.underlying33 rfl sz33 (fun j u hj => cell_at hR (by rw [List.getElem?_toArray]; exact hj)) ⟨hC, by show MatchRes _ _ _ _ _ _ (some M) _ _; unfold MatchRes; simp only; rw [if_pos (by unfold passT; rw [decide_eq_true (show link = t.link by omega), decide_eq_true (show gen = t.gen by omega), decide_eq_true (show port = t.port by omega)]; simp [*])]; exact ⟨_, by rw [show ansT t M = _ from hans], _, _, rfl, hva.kept hC2 (fun k hk e => by have := hfa k hk; omega), hvb.kept hC2 (fun k hk e => by have := hfb k hk; omega), fun k hk => by have := hfa k hk; have := hc13.size; omega, fun k hk => by have := hfb k hk; have := hc13.size; omega⟩⟩
end Go.Proofs.YthcpjcgjmdfpjaaDoor

namespace Go.Proofs.YthcpjcgjmdfpjaaDoor
open Go Go.RowKit
set_option maxRecDepth 100000
set_option maxHeartbeats 4000000

theorem build29_3 (s : List UInt8) (ty id port : Int) (w : World) : (Instr.build 29 #[(0, .agg #[sv s, .int .i64 ty]), (4, .int .i64 id), (5, .int .i64 port)]).run Tryd.prog w = .ok (Tr.val ⟨s, ty, 0, 0, zero16, id, port, false, false, 0⟩) w := by unfold sv; kernel_rfl
theorem build33_015 (id : Int) (r : Bool) (s : List UInt8) (t : Int) (w : World) : (Instr.build 33 #[(0, .int .i64 id), (1, .bool r), (5, .agg #[sv s, .int .i64 t])]).run Tryd.prog w = .ok (.agg (Msg.cells ⟨id, r, false, false, 0, s, t, [], []⟩ (.slice none 0 0) (.slice none 0 0)).toArray) w := by unfold sv; kernel_rfl
theorem inf29 : ∃ i, Tryd.prog.info? 29 = some i ∧ i.size = 25 := inf_of sz29
theorem enc5 : (enc ⟨5, true, false, false, 0, [97], 1, [], []⟩) = [0, 5, 128, 0, 0, 1, 0, 0, 0, 0, 0, 0, 1, 97, 0, 0, 1, 0, 1] := by kernel_rfl
theorem rt5 : decode (enc ⟨5, true, false, false, 0, [97], 1, [], []⟩) = some ⟨5, true, false, false, 0, [97], 1, [], []⟩ := by kernel_rfl
theorem Buf.src {w : World} {base g cap : Nat} {bs : List UInt8} (h : Buf w base (.slice (some ⟨g, 0, none⟩) bs.length cap) bs) (hle : bs.length ≤ cap) (hc : ∀ (j : Nat) (b : UInt8), bs[j]? = some b → w.cell? ⟨g, j, none⟩ = some (u8v b)) : Src w (some ⟨g, 0, none⟩) bs.length cap bs :=
  ⟨rfl, hle, fun _ => ⟨g, 0, rfl, fun j b hj => by rw [Nat.zero_add]; exact hc j b hj⟩⟩
theorem match_yes {t : Tr} {link gen : Int} {frm : List UInt8} {port : Int} {base : Nat} {m : Msg} {e : Ending} {w : World} (h1 : passT t link gen frm port = true) (h2 : ansT t m = true) (h : MatchRes t link gen frm port base (some m) e w) : ∃ v, e = .returned (.tuple #[v, .bool true]) ∧ MVF base w v m := by
  unfold MatchRes at h
  simp only at h
  rw [if_pos h1, h2] at h
  exact h
theorem draw5 (w : World) : Calls Tryd.prog 26 #[.int .i64 5] w fun e w' => e = .returned (.tuple #[.int .i64 5, .int .i64 1024]) ∧ w = w' := by
  have := draw_any 5 w
  rwa [show drawId 5 = 5 by kernel_rfl, show drawPort 5 = 1024 by kernel_rfl] at this
theorem fit13_any (w : World) (hG : Glob w) : Calls Tryd.prog 21 #[] w fun e w' => e = .returned (.bool true) ∧ Chg (fun _ => False) w w' := by
  have h0 : 0 < w.heap.size := World.block_lt_of_cell? w ⟨0, 0, none⟩ (hG 0 (u8v 0) rfl)
  refine calls_cw (args := []) Tryd.func21 rfl rfl ?_
  show CW _ _ _ 38 [] w
  refine CW.rseq ?_
  refine WL.op (by decide) (R.assign rfl) ?_
  refine WL.next ?_
  refine CW.rseq ?_
  refine WL.eff rfl (OP.call (by decide) Tryd.func26 (by kernel_rfl) (by kernel_rfl) rfl (draw5 w) ?_)
  rintro ed _ ⟨rfl, rfl⟩
  refine ⟨_, rfl, ?_⟩
  refine WL.op (by decide) (R.move rfl) ?_
  refine WL.op (by decide) (R.extract rfl rfl) ?_
  refine WL.op (by decide) (R.extract rfl rfl) ?_
  refine WL.op (by decide) (R.assign rfl) ?_
  refine WL.op (by decide) (R.assign rfl) ?_
  refine WL.next ?_
  refine CW.rseq ?_
  refine WL.op (by decide) (R.build (parts := [(0, _), (1, _)]) (vals := [(0, _), (1, _)]) rfl (fun w => build25_2 [97] 1 w)) ?_
  refine WL.op (by decide) (R.move rfl) ?_
  refine WL.op (by decide) (R.move rfl) ?_
  refine WL.op (by decide) (R.build (parts := [(0, _), (4, _), (5, _)]) (vals := [(0, _), (4, _), (5, _)]) rfl (fun w => build29_3 [97] 1 5 1024 w)) ?_
  refine WL.eff rfl (OP.alloc1 (.agg (Tr.cells ⟨[], 0, 0, 0, zero16, 0, 0, false, false, 0⟩).toArray) (by decide) (by kernel_rfl) ?_)
  intro w1 hc1 hs1 hT
  have hG := hG.kept hc1 (fun e => e)
  refine WL.eff rfl (OP.storeAgg inf29.choose_spec.1 (by rw [inf29.choose_spec.2]; rfl) rfl rfl (Tr.allOne _) hT rfl ?_)
  intro w2 hc2 hs2 hT
  have hG := hG.kept hc2 (by omega)
  have hC : Chg (fun _ => False) w w2 := hc1.then hc2 (fun k hk e => by omega)
  refine WL.next ?_
  refine CW.seq ?_
  refine CW.draw (fun w0 => w0.heap[w.heap.size]? = some (.cells (Tr.cells ⟨[97], 1, 0, 0, zero16, 5, 1024, false, false, 0⟩).toArray 29 (0, 0))) (by kernel_rfl) ?_
  have hG := hG.kept (Chg.drew (fun _ => False) _) (fun e => e)
  have hC := hC.trans (Chg.drew _ _)
  have hgt : w2.heap.size ≤ (World.drew w2).heap.size := Nat.le_refl _
  refine AH.take 0 rfl (by kernel_rfl) (by kernel_rfl) (by kernel_rfl) (fun _ _ _ _ h => h) hT (by decide) (fun w hS => R.loadAgg1 (cs := Tr.cells ⟨[97], 1, 0, 0, zero16, 5, 1024, false, false, 0⟩) Tryd.underlying29 rfl sz29 rfl (fun j u hj => cell_at hS (by rw [Nat.zero_add, List.getElem?_toArray]; exact hj))) ?_
  refine AH.take 1 rfl (by kernel_rfl) (by kernel_rfl) (by kernel_rfl) (fun _ _ _ _ h => h) hT (by decide) (fun w hS => R.build (parts := []) (vals := []) rfl build27_run) ?_
  refine AH.take 2 rfl (by kernel_rfl) (by kernel_rfl) (by kernel_rfl) (fun _ _ _ _ h => h) hT (by decide) (fun w hS => R.move rfl) ?_
  refine AH.take 3 rfl (by kernel_rfl) (by kernel_rfl) (by kernel_rfl) (fun _ _ _ _ h => h) hT (by decide) (fun w hS => FA29_0 rfl) ?_
  refine AH.take 4 rfl (by kernel_rfl) (by kernel_rfl) (by kernel_rfl) (fun _ _ _ _ h => h) hT (by decide) (fun w hS => R.loadAgg1 (cs := [sv [97], .int .i64 1]) Tryd.underlying25 rfl sz25 rfl (fun j u hj => cell_at hS (by match j, hj with | 0, hj => exact hj | 1, hj => exact hj))) ?_
  refine AH.take 5 rfl (by kernel_rfl) (by kernel_rfl) (by kernel_rfl) (fun _ _ _ _ h => h) hT (by decide) (fun w hS => R.build (parts := [(0, _), (1, _), (5, _)]) (vals := [(0, _), (1, _), (5, _)]) rfl (fun w => build33_015 5 true [97] 1 w)) ?_
  refine AH.either 6 11 (by kernel_rfl) rfl rfl rfl rfl ?_ ?_
  · skip
    refine (OP.call (by decide) Tryd.func24 (by kernel_rfl) (by kernel_rfl) rfl (encode_any ⟨5, true, false, false, 0, [97], 1, [], []⟩ _ _ ⟨_, _, rfl, RSl.nil _, RSl.nil _⟩ ⟨by decide, by decide, by simp, by decide⟩) ?_)
    rintro ed w3 ⟨v3, rfl, hB, hc3⟩
    have hT := hc3.at hT (fun e => e)
    refine ⟨_, rfl, hT, ?_⟩
    have hG := hG.kept hc3 (fun e => e)
    have hC := hC.trans hc3
    have hgt := Nat.le_trans hgt hc3.size
    try (have hB5 := hc3.at hB5 (fun e => e))
    obtain ⟨bs0, hbs0⟩ : ∃ b, b = enc ⟨5, true, false, false, 0, [97], 1, [], []⟩ := ⟨_, rfl⟩
    rw [← hbs0] at hB
    have hrt := rt5
    have hln := congrArg List.length enc5
    rw [← hbs0] at hrt hln
    clear hbs0
    obtain ⟨g, cap, rfl, _, hgl, hle, hcell⟩ := hB.open (by intro h; rw [h] at hln; cases hln)
    have hS0 := hB.src hle hcell
    refine AH.either 7 11 (by kernel_rfl) rfl rfl rfl rfl ?_ ?_
    · skip
      refine (OP.call (by decide) Tryd.func23 (by kernel_rfl) (by kernel_rfl) rfl (match_any ⟨[97], 1, 0, 0, zero16, 5, 1024, false, false, 0⟩ 0 0 zero16 1024 _ _ _ bs0 _ rfl rfl hS0 (fun g o h => by injection h with h; injection h with h; omega) (by rw [hln]; decide) hG) ?_)
      rintro ed w4 ⟨hc4, hres⟩
      rw [hrt] at hres
      have hT := hc4.at hT (fun e => e)
      obtain ⟨v4, rfl, va, vb, rfl, hva, hvb, _⟩ := match_yes (by rfl) (by rfl) hres
      refine ⟨_, rfl, hT, ?_⟩
      have hC := hC.trans hc4
      have hG := hG.kept hc4 (fun e => e)
      have hgt := Nat.le_trans hgt hc4.size
      try (have hB5 := hc4.at hB5 (fun e => e))
      obtain ⟨Aa, ca, rfl, _⟩ := hva.form
      obtain ⟨Ab, cb, rfl, _⟩ := hvb.form
      refine AH.take 8 rfl (by kernel_rfl) (by kernel_rfl) (by kernel_rfl) (fun _ _ _ _ h => h) hT (by decide) (fun w hS => R.move rfl) ?_
      refine AH.take 9 rfl (by kernel_rfl) (by kernel_rfl) (by kernel_rfl) (fun _ _ _ _ h => h) hT (by decide) (fun w hS => R.extract rfl rfl) ?_
      refine AH.take 10 rfl (by kernel_rfl) (by kernel_rfl) (by kernel_rfl) (fun _ _ _ _ h => h) hT (by decide) (fun w hS => R.extract rfl rfl) ?_
      refine AH.eff 11 (by kernel_rfl) rfl rfl (OP.alloc1 (.agg (Msg.cells ⟨0, false, false, false, 0, [], 0, [], []⟩ (.slice none 0 0) (.slice none 0 0)).toArray) (by decide) (by kernel_rfl) ?_)
      intro w5 hc5 hs5 hB5
      have hT := hc5.at hT (fun e => e)
      refine ⟨hT, ?_⟩
      have hC := hC.trans hc5
      have hG := hG.kept hc5 (fun e => e)
      have hgt5 := hgt
      have hgt := Nat.le_trans hgt hc5.size
      try (have hS0 := hS0.kept hc5 (fun _ _ _ e => e))
      try (have hgl := Nat.lt_of_lt_of_le hgl hc5.size)
      refine AH.eff 12 (by kernel_rfl) rfl rfl (OP.storeAgg inf33.choose_spec.1 (by rw [inf33.choose_spec.2]; rfl) rfl rfl (m_all _ _ _ _ _ _ _) hB5 rfl ?_)
      intro w6 hc6 hs6 hB6
      have hT := hc6.at hT (fun e => by omega)
      refine ⟨hT, ?_⟩
      have hC := hC.then hc6 (fun k hk e => by omega)
      refine AH.take 13 rfl (by kernel_rfl) (by kernel_rfl) (by kernel_rfl) (fun _ _ _ _ h => h) hT (by decide) (fun w hS => R.assign rfl) ?_
      refine AH.done (by kernel_rfl) ?_
      refine EW.next ?_
      refine CW.rseq ?_
      refine WL.op (by decide) (R.move rfl) ?_
      refine WL.op (by decide) (R.eql rfl rfl (decide_eq_true (by decide))) ?_
      refine WL.op (by decide) (R.move rfl) ?_
      refine WL.gop (by decide) rfl rfl rfl (R.move rfl) ?_
      refine WL.gop (by decide) rfl rfl rfl (R.eql rfl rfl (decide_eq_true (by decide))) ?_
      refine WL.op (by decide) (R.pickT rfl rfl) ?_
      refine WL.op (by decide) (R.move rfl) ?_
      refine WL.gop (by decide) rfl rfl rfl (R.move rfl) ?_
      refine WL.op (by decide) (R.pickT rfl rfl) ?_
      refine WL.op (by decide) (R.move rfl) ?_
      refine WL.geff rfl rfl rfl (OP.call (by decide) Tryd.func33 (by kernel_rfl) (by kernel_rfl) rfl (name_any 0 _) ?_)
      rintro ed w9 ⟨rfl, hc9⟩
      refine ⟨_, rfl, ?_⟩
      have hC := hC.trans hc9
      refine WL.gop (by decide) rfl rfl rfl (R.eqlStrC rfl rfl (decide_eq_true (by kernel_rfl))) ?_
      refine WL.op (by decide) (R.pickT rfl rfl) ?_
      refine WL.op (by decide) (R.assign rfl) ?_
      refine WL.next ?_
      refine CW.ret ?_
      exact EW.ret1 (.inl rfl) rfl rfl ⟨rfl, hC⟩
    · skip
      refine (OP.alloc1 (.agg (Msg.cells ⟨0, false, false, false, 0, [], 0, [], []⟩ (.slice none 0 0) (.slice none 0 0)).toArray) (by decide) (by kernel_rfl) ?_)
      intro w5 hc5 hs5 hB5
      have hT := hc5.at hT (fun e => e)
      refine ⟨hT, ?_⟩
      have hC := hC.trans hc5
      have hG := hG.kept hc5 (fun e => e)
      have hgt5 := hgt
      have hgt := Nat.le_trans hgt hc5.size
      try (have hS0 := hS0.kept hc5 (fun _ _ _ e => e))
      try (have hgl := Nat.lt_of_lt_of_le hgl hc5.size)
      refine AH.eff 7 (by kernel_rfl) rfl rfl (OP.call (by decide) Tryd.func23 (by kernel_rfl) (by kernel_rfl) rfl (match_any ⟨[97], 1, 0, 0, zero16, 5, 1024, false, false, 0⟩ 0 0 zero16 1024 _ _ _ bs0 _ rfl rfl hS0 (fun g o h => by injection h with h; injection h with h; omega) (by rw [hln]; decide) hG) ?_)
      rintro ed w4 ⟨hc4, hres⟩
      rw [hrt] at hres
      have hT := hc4.at hT (fun e => e)
      obtain ⟨v4, rfl, va, vb, rfl, hva, hvb, _⟩ := match_yes (by rfl) (by rfl) hres
      refine ⟨_, rfl, hT, ?_⟩
      have hC := hC.trans hc4
      have hG := hG.kept hc4 (fun e => e)
      have hgt := Nat.le_trans hgt hc4.size
      try (have hB5 := hc4.at hB5 (fun e => e))
      obtain ⟨Aa, ca, rfl, _⟩ := hva.form
      obtain ⟨Ab, cb, rfl, _⟩ := hvb.form
      refine AH.take 8 rfl (by kernel_rfl) (by kernel_rfl) (by kernel_rfl) (fun _ _ _ _ h => h) hT (by decide) (fun w hS => R.move rfl) ?_
      refine AH.take 9 rfl (by kernel_rfl) (by kernel_rfl) (by kernel_rfl) (fun _ _ _ _ h => h) hT (by decide) (fun w hS => R.extract rfl rfl) ?_
      refine AH.take 10 rfl (by kernel_rfl) (by kernel_rfl) (by kernel_rfl) (fun _ _ _ _ h => h) hT (by decide) (fun w hS => R.extract rfl rfl) ?_
      refine AH.eff 12 (by kernel_rfl) rfl rfl (OP.storeAgg inf33.choose_spec.1 (by rw [inf33.choose_spec.2]; rfl) rfl rfl (m_all _ _ _ _ _ _ _) hB5 rfl ?_)
      intro w6 hc6 hs6 hB6
      have hT := hc6.at hT (fun e => by omega)
      refine ⟨hT, ?_⟩
      have hC := hC.then hc6 (fun k hk e => by omega)
      refine AH.take 13 rfl (by kernel_rfl) (by kernel_rfl) (by kernel_rfl) (fun _ _ _ _ h => h) hT (by decide) (fun w hS => R.assign rfl) ?_
      refine AH.done (by kernel_rfl) ?_
      refine EW.next ?_
      refine CW.rseq ?_
      refine WL.op (by decide) (R.move rfl) ?_
      refine WL.op (by decide) (R.eql rfl rfl (decide_eq_true (by decide))) ?_
      refine WL.op (by decide) (R.move rfl) ?_
      refine WL.gop (by decide) rfl rfl rfl (R.move rfl) ?_
      refine WL.gop (by decide) rfl rfl rfl (R.eql rfl rfl (decide_eq_true (by decide))) ?_
      refine WL.op (by decide) (R.pickT rfl rfl) ?_
      refine WL.op (by decide) (R.move rfl) ?_
      refine WL.gop (by decide) rfl rfl rfl (R.move rfl) ?_
      refine WL.op (by decide) (R.pickT rfl rfl) ?_
      refine WL.op (by decide) (R.move rfl) ?_
      refine WL.geff rfl rfl rfl (OP.call (by decide) Tryd.func33 (by kernel_rfl) (by kernel_rfl) rfl (name_any 0 _) ?_)
      rintro ed w9 ⟨rfl, hc9⟩
      refine ⟨_, rfl, ?_⟩
      have hC := hC.trans hc9
      refine WL.gop (by decide) rfl rfl rfl (R.eqlStrC rfl rfl (decide_eq_true (by kernel_rfl))) ?_
      refine WL.op (by decide) (R.pickT rfl rfl) ?_
      refine WL.op (by decide) (R.assign rfl) ?_
      refine WL.next ?_
      refine CW.ret ?_
      exact EW.ret1 (.inl rfl) rfl rfl ⟨rfl, hC⟩
  · skip
    refine (OP.alloc1 (.agg (Msg.cells ⟨0, false, false, false, 0, [], 0, [], []⟩ (.slice none 0 0) (.slice none 0 0)).toArray) (by decide) (by kernel_rfl) ?_)
    intro w5 hc5 hs5 hB5
    have hT := hc5.at hT (fun e => e)
    refine ⟨hT, ?_⟩
    have hC := hC.trans hc5
    have hG := hG.kept hc5 (fun e => e)
    have hgt5 := hgt
    have hgt := Nat.le_trans hgt hc5.size
    try (have hS0 := hS0.kept hc5 (fun _ _ _ e => e))
    try (have hgl := Nat.lt_of_lt_of_le hgl hc5.size)
    refine AH.eff 6 (by kernel_rfl) rfl rfl (OP.call (by decide) Tryd.func24 (by kernel_rfl) (by kernel_rfl) rfl (encode_any ⟨5, true, false, false, 0, [97], 1, [], []⟩ _ _ ⟨_, _, rfl, RSl.nil _, RSl.nil _⟩ ⟨by decide, by decide, by simp, by decide⟩) ?_)
    rintro ed w3 ⟨v3, rfl, hB, hc3⟩
    have hT := hc3.at hT (fun e => e)
    refine ⟨_, rfl, hT, ?_⟩
    have hG := hG.kept hc3 (fun e => e)
    have hC := hC.trans hc3
    have hgt := Nat.le_trans hgt hc3.size
    try (have hB5 := hc3.at hB5 (fun e => e))
    obtain ⟨bs0, hbs0⟩ : ∃ b, b = enc ⟨5, true, false, false, 0, [97], 1, [], []⟩ := ⟨_, rfl⟩
    rw [← hbs0] at hB
    have hrt := rt5
    have hln := congrArg List.length enc5
    rw [← hbs0] at hrt hln
    clear hbs0
    obtain ⟨g, cap, rfl, _, hgl, hle, hcell⟩ := hB.open (by intro h; rw [h] at hln; cases hln)
    have hS0 := hB.src hle hcell
    refine AH.eff 7 (by kernel_rfl) rfl rfl (OP.call (by decide) Tryd.func23 (by kernel_rfl) (by kernel_rfl) rfl (match_any ⟨[97], 1, 0, 0, zero16, 5, 1024, false, false, 0⟩ 0 0 zero16 1024 _ _ _ bs0 _ rfl rfl hS0 (fun g o h => by injection h with h; injection h with h; omega) (by rw [hln]; decide) hG) ?_)
    rintro ed w4 ⟨hc4, hres⟩
    rw [hrt] at hres
    have hT := hc4.at hT (fun e => e)
    obtain ⟨v4, rfl, va, vb, rfl, hva, hvb, _⟩ := match_yes (by rfl) (by rfl) hres
    refine ⟨_, rfl, hT, ?_⟩
    have hC := hC.trans hc4
    have hG := hG.kept hc4 (fun e => e)
    have hgt := Nat.le_trans hgt hc4.size
    try (have hB5 := hc4.at hB5 (fun e => e))
    obtain ⟨Aa, ca, rfl, _⟩ := hva.form
    obtain ⟨Ab, cb, rfl, _⟩ := hvb.form
    refine AH.take 8 rfl (by kernel_rfl) (by kernel_rfl) (by kernel_rfl) (fun _ _ _ _ h => h) hT (by decide) (fun w hS => R.move rfl) ?_
    refine AH.take 9 rfl (by kernel_rfl) (by kernel_rfl) (by kernel_rfl) (fun _ _ _ _ h => h) hT (by decide) (fun w hS => R.extract rfl rfl) ?_
    refine AH.take 10 rfl (by kernel_rfl) (by kernel_rfl) (by kernel_rfl) (fun _ _ _ _ h => h) hT (by decide) (fun w hS => R.extract rfl rfl) ?_
    refine AH.eff 12 (by kernel_rfl) rfl rfl (OP.storeAgg inf33.choose_spec.1 (by rw [inf33.choose_spec.2]; rfl) rfl rfl (m_all _ _ _ _ _ _ _) hB5 rfl ?_)
    intro w6 hc6 hs6 hB6
    have hT := hc6.at hT (fun e => by omega)
    refine ⟨hT, ?_⟩
    have hC := hC.then hc6 (fun k hk e => by omega)
    refine AH.take 13 rfl (by kernel_rfl) (by kernel_rfl) (by kernel_rfl) (fun _ _ _ _ h => h) hT (by decide) (fun w hS => R.assign rfl) ?_
    refine AH.done (by kernel_rfl) ?_
    refine EW.next ?_
    refine CW.rseq ?_
    refine WL.op (by decide) (R.move rfl) ?_
    refine WL.op (by decide) (R.eql rfl rfl (decide_eq_true (by decide))) ?_
    refine WL.op (by decide) (R.move rfl) ?_
    refine WL.gop (by decide) rfl rfl rfl (R.move rfl) ?_
    refine WL.gop (by decide) rfl rfl rfl (R.eql rfl rfl (decide_eq_true (by decide))) ?_
    refine WL.op (by decide) (R.pickT rfl rfl) ?_
    refine WL.op (by decide) (R.move rfl) ?_
    refine WL.gop (by decide) rfl rfl rfl (R.move rfl) ?_
    refine WL.op (by decide) (R.pickT rfl rfl) ?_
    refine WL.op (by decide) (R.move rfl) ?_
    refine WL.geff rfl rfl rfl (OP.call (by decide) Tryd.func33 (by kernel_rfl) (by kernel_rfl) rfl (name_any 0 _) ?_)
    rintro ed w9 ⟨rfl, hc9⟩
    refine ⟨_, rfl, ?_⟩
    have hC := hC.trans hc9
    refine WL.gop (by decide) rfl rfl rfl (R.eqlStrC rfl rfl (decide_eq_true (by kernel_rfl))) ?_
    refine WL.op (by decide) (R.pickT rfl rfl) ?_
    refine WL.op (by decide) (R.assign rfl) ?_
    refine WL.next ?_
    refine CW.ret ?_
    exact EW.ret1 (.inl rfl) rfl rfl ⟨rfl, hC⟩
theorem shm (n : Int) : n / 2 ^ (16 : Int).toNat % 64512 < 64512 ∧ 0 ≤ n / 2 ^ (16 : Int).toNat % 64512 := by omega
theorem shn (n : Int) (h : ¬ n < 0) : 0 ≤ n / 2 ^ (16 : Int).toNat := by
  have h0 : (2 : Int) ^ (16 : Int).toNat = 65536 := rfl
  rw [h0]; omega
theorem drawPort_eq {n : Int} (h1 : ¬ n < 0) (h2 : ¬ n ≥ 1073741824) : drawPort n = 1024 + n / 2 ^ (16 : Int).toNat % 64512 := by
  unfold drawPort
  rw [show n % 18446744073709551616 = n from Int.emod_eq_of_lt (by omega) (by omega)]
theorem transDraws_any (n : Int) (w : World) (hG : Glob w) : Calls Tryd.prog 4 #[.int .i64 n] w fun e w' => e = .returned (.bool true) ∧ Chg (fun _ => False) w w' := by
  refine calls_cw (args := [.int .i64 n]) Tryd.func4 rfl rfl ?_
  show CW _ _ _ 48 [(0, .int .i64 n)] w
  refine CW.rseq ?_
  refine WL.op (by decide) (R.assign rfl) ?_
  refine WL.next ?_
  refine CW.seq ?_
  refine CW.rseq ?_
  refine WL.eff rfl (OP.call (args := []) (by decide) Tryd.func21 (by kernel_rfl) (by kernel_rfl) rfl (fit13_any w hG) ?_)
  rintro ed w1 ⟨rfl, hC⟩
  refine ⟨_, rfl, ?_⟩
  refine WL.op (by decide) (R.not rfl) ?_
  refine WL.next ?_
  refine CW.condF rfl ?_
  refine CW.skip ?_
  refine EW.next ?_
  refine CW.rseq ?_
  refine WL.op (by decide) (R.move rfl) ?_
  refine WL.eff rfl (OP.call (by decide) Tryd.func26 (by kernel_rfl) (by kernel_rfl) rfl (draw_any n w1) ?_)
  rintro ed _ ⟨rfl, rfl⟩
  refine ⟨_, rfl, ?_⟩
  refine WL.op (by decide) (R.move rfl) ?_
  refine WL.op (by decide) (R.extract rfl rfl) ?_
  refine WL.op (by decide) (R.extract rfl rfl) ?_
  refine WL.op (by decide) (R.assign rfl) ?_
  refine WL.op (by decide) (R.assign rfl) ?_
  refine WL.next ?_
  refine CW.rseq ?_
  refine WL.op (by decide) (R.move rfl) ?_
  refine WL.op (by decide) (R.geq rfl rfl (decide_eq_true (by unfold drawId; omega))) ?_
  refine WL.op (by decide) (R.move rfl) ?_
  refine WL.gop (by decide) rfl rfl rfl (R.move rfl) ?_
  refine WL.gop (by decide) rfl rfl rfl (R.leq rfl rfl (decide_eq_true (by unfold drawId; omega))) ?_
  refine WL.op (by decide) (R.pickT rfl rfl) ?_
  refine WL.op (by decide) (R.move rfl) ?_
  refine WL.gop (by decide) rfl rfl rfl (R.move rfl) ?_
  refine WL.gop (by decide) rfl rfl rfl (R.geq rfl rfl (decide_eq_true (by have := sh16m n; unfold drawPort; omega))) ?_
  refine WL.op (by decide) (R.pickT rfl rfl) ?_
  refine WL.op (by decide) (R.move rfl) ?_
  refine WL.gop (by decide) rfl rfl rfl (R.move rfl) ?_
  refine WL.gop (by decide) rfl rfl rfl (R.leq rfl rfl (decide_eq_true (by have := sh16m n; unfold drawPort; omega))) ?_
  refine WL.op (by decide) (R.pickT rfl rfl) ?_
  refine WL.op (by decide) (R.move rfl) ?_
  refine WL.gop (by decide) rfl rfl rfl (R.move rfl) ?_
  refine WL.gop (by decide) rfl rfl rfl (R.move rfl) ?_
  refine WL.gop (by decide) rfl rfl rfl (R.mask 16 rfl rfl (by decide) rfl rfl) ?_
  refine WL.gop (by decide) rfl rfl rfl (R.eql rfl rfl (decide_eq_true (rfl))) ?_
  refine WL.op (by decide) (R.pickT rfl rfl) ?_
  refine WL.op (by decide) (R.move rfl) ?_
  refine WL.gop (by decide) rfl rfl rfl (R.move rfl) ?_
  refine WL.gsplit _ (by decide) rfl rfl rfl (R.lssD rfl rfl) (fun h1 => ?_) (fun h1 => ?_)
  · skip
    refine WL.gop (by decide) rfl rfl rfl (R.move rfl) ?_
    refine WL.pass (by decide) rfl rfl rfl ?_
    refine WL.pass (by decide) rfl rfl rfl ?_
    refine WL.gop (by decide) rfl rfl rfl (R.pickT rfl rfl) ?_
    refine WL.gop (by decide) rfl rfl rfl (R.move rfl) ?_
    refine WL.pass (by decide) rfl rfl rfl ?_
    refine WL.pass (by decide) rfl rfl rfl ?_
    refine WL.pass (by decide) rfl rfl rfl ?_
    refine WL.pass (by decide) rfl rfl rfl ?_
    refine WL.pass (by decide) rfl rfl rfl ?_
    refine WL.pass (by decide) rfl rfl rfl ?_
    refine WL.gop (by decide) rfl rfl rfl (R.pickT rfl rfl) ?_
    refine WL.op (by decide) (R.pickT rfl rfl) ?_
    refine WL.op (by decide) (R.assign rfl) ?_
    refine WL.next ?_
    refine CW.ret ?_
    exact EW.ret1 (.inl rfl) rfl rfl ⟨rfl, hC⟩
  · skip
    refine WL.gop (by decide) rfl rfl rfl (R.move rfl) ?_
    refine WL.gop (by decide) rfl rfl rfl (R.move rfl) ?_
    refine WL.gsplit _ (by decide) rfl rfl rfl (R.geqD rfl rfl) (fun h2 => ?_) (fun h2 => ?_)
    · skip
      refine WL.gop (by decide) rfl rfl rfl (R.pickF rfl rfl) ?_
      refine WL.gop (by decide) rfl rfl rfl (R.move rfl) ?_
      refine WL.pass (by decide) rfl rfl rfl ?_
      refine WL.pass (by decide) rfl rfl rfl ?_
      refine WL.pass (by decide) rfl rfl rfl ?_
      refine WL.pass (by decide) rfl rfl rfl ?_
      refine WL.pass (by decide) rfl rfl rfl ?_
      refine WL.pass (by decide) rfl rfl rfl ?_
      refine WL.gop (by decide) rfl rfl rfl (R.pickT rfl rfl) ?_
      refine WL.op (by decide) (R.pickT rfl rfl) ?_
      refine WL.op (by decide) (R.assign rfl) ?_
      refine WL.next ?_
      refine CW.ret ?_
      exact EW.ret1 (.inl rfl) rfl rfl ⟨rfl, hC⟩
    · skip
      refine WL.gop (by decide) rfl rfl rfl (R.pickF rfl rfl) ?_
      refine WL.gop (by decide) rfl rfl rfl (R.move rfl) ?_
      refine WL.gop (by decide) rfl rfl rfl (R.move rfl) ?_
      refine WL.gop (by decide) rfl rfl rfl (R.move rfl) ?_
      refine WL.gop (by decide) rfl rfl rfl (R.shr rfl rfl (by omega)) ?_
      refine WL.gop (by decide) rfl rfl rfl (R.remN rfl rfl (by decide) (shn n (by omega))) ?_
      refine WL.gop (by decide) rfl rfl rfl (R.add rfl rfl (by have := shm n; omega)) ?_
      refine WL.gop (by decide) rfl rfl rfl (R.eql rfl rfl (decide_eq_true (drawPort_eq (by omega) (by omega)))) ?_
      refine WL.gop (by decide) rfl rfl rfl (R.pickF rfl rfl) ?_
      refine WL.op (by decide) (R.pickT rfl rfl) ?_
      refine WL.op (by decide) (R.assign rfl) ?_
      refine WL.next ?_
      refine CW.ret ?_
      exact EW.ret1 (.inl rfl) rfl rfl ⟨rfl, hC⟩
end Go.Proofs.YthcpjcgjmdfpjaaDoor

namespace Go.Proofs.YthcpjcgjmdfpjaaDoor
open Go Go.RowKit
set_option maxRecDepth 100000
set_option maxHeartbeats 4000000

/-- Are they the same? -/
noncomputable def sameM (a b : Msg) : Bool := @decide (a = b) (Classical.propDecidable _)
theorem sameM_no {a b : Msg} (h : ¬ a = b) : sameM a b = false := by unfold sameM; simp [h]
theorem sameM_self (a : Msg) : sameM a a = true := by unfold sameM; simp
theorem sameM_eq {a b : Msg} (h : sameM a b = true) : a = b := by unfold sameM at h; simpa using h
theorem sameM_yes {a b : Msg} (h1 : a.id = b.id) (h2 : a.reply = b.reply) (h3 : a.trunc = b.trunc) (h4 : a.recur = b.recur) (h5 : a.code = b.code) (h6 : a.qname = b.qname ∧ a.qtype = b.qtype) (h7 : a.ans = b.ans) (h8 : a.auth = b.auth) : sameM a b = true := by
  have : a = b := by
    cases a; cases b
    simp only at h1 h2 h3 h4 h5 h6 h7 h8
    obtain ⟨h6, h9⟩ := h6
    subst h1 h2 h3 h4 h5 h6 h7 h8 h9
    rfl
  rw [this]; exact sameM_self b
theorem R.neqBD {l : Env} {w : World} {x y : Operand} {ty : TypeId} {a b : Bool} (hx : ev l x = some (.bool a)) (hy : ev l y = some (.bool b)) : Runs Tryd.prog l (.binOp .neq 4 x y ty) w (.bool (decide (¬ a = b))) w :=
  R.neqB hx hy (by cases a <;> cases b <;> rfl)
theorem R.neq25D {l : Env} {w : World} {x y : Operand} {ty : TypeId} {a b : List UInt8} {m n : Int} (hx : ev l x = some (.agg #[sv a, .int .i64 m])) (hy : ev l y = some (.agg #[sv b, .int .i64 n])) : Runs Tryd.prog l (.binOp .neq 25 x y ty) w (.bool (decide (¬ (a = b ∧ m = n)))) w :=
  R.neq25 hx hy (by by_cases h : a = b ∧ m = n <;> simp [h])
theorem take_next {α : Type} {p q : List α} {j : Nat} {x y : α} (h : p.take j = q.take j) (hx : p[j]? = some x) (hy : q[j]? = some y) (e : x = y) : p.take (j + 1) = q.take (j + 1) := by
  rw [List.take_add_one, List.take_add_one, h, hx, hy, e]
theorem same_any (a b : Msg) (va vb : Value) (w0 : World) (ha : MV w0 va a) (hb : MV w0 vb b) (hn1 : a.ans.length ≤ 1099511627776) (hn2 : a.auth.length ≤ 1099511627776) :
    Calls Tryd.prog 25 #[va, vb] w0 fun e w' => e = .returned (.bool (sameM a b)) ∧ Chg (fun _ => False) w0 w' := by
  obtain ⟨ua, ub, rfl, hAa, hBa⟩ := ha
  obtain ⟨uc, ud, rfl, hAb, hBb⟩ := hb
  obtain ⟨Aa, ca, rfl, _⟩ := hAa.form
  obtain ⟨Ba, da, rfl, _⟩ := hBa.form
  obtain ⟨Ab, cb, rfl, _⟩ := hAb.form
  obtain ⟨Bb, db, rfl, _⟩ := hBb.form
  refine calls_cw (args := [.agg (a.cells (.slice Aa a.ans.length ca) (.slice Ba a.auth.length da)).toArray, .agg (b.cells (.slice Ab b.ans.length cb) (.slice Bb b.auth.length db)).toArray]) Tryd.func25 rfl rfl ?_
  show CW _ _ _ 101 [(0, .agg (a.cells (.slice Aa a.ans.length ca) (.slice Ba a.auth.length da)).toArray), (1, .agg (b.cells (.slice Ab b.ans.length cb) (.slice Bb b.auth.length db)).toArray)] w0
  refine CW.rseq ?_
  refine WL.eff rfl (OP.box (by decide) rfl ?_)
  intro w1 hc1 hs1 hA0
  obtain ⟨ba, he_ba⟩ : ∃ q, q = w0.heap.size := ⟨_, rfl⟩
  rw [← he_ba] at hA0 ⊢
  have hA := hA0
  refine WL.eff rfl (OP.box (by decide) rfl ?_)
  intro w2 hc2 hs2 hB0
  obtain ⟨bb, he_bb⟩ : ∃ q, q = w1.heap.size := ⟨_, rfl⟩
  rw [← he_bb] at hB0 ⊢
  have hB := hB0
  have hA := hc2.at hA (fun e => e)
  have hC := hc1.trans hc2
  have hAa := hAa.kept hC (fun _ _ e => e)
  have hBa := hBa.kept hC (fun _ _ e => e)
  have hAb := hAb.kept hC (fun _ _ e => e)
  have hBb := hBb.kept hC (fun _ _ e => e)
  refine WL.op (by decide) (R.assign rfl) ?_
  refine WL.next ?_
  refine CW.seq ?_
  refine CW.rseq ?_
  refine WL.op (by decide) (FA33_0 rfl) ?_
  refine WL.op (by decide) (R.load Tryd.underlying3 rfl rfl (cell_at hA rfl)) ?_
  refine WL.op (by decide) (FA33_0 rfl) ?_
  refine WL.op (by decide) (R.load Tryd.underlying3 rfl rfl (cell_at hB rfl)) ?_
  refine WL.neqS (by decide) rfl rfl (fun h1 => ?_) (fun h1 => ?_)
  · skip
    refine WL.op (by decide) (R.move rfl) ?_
    refine WL.pass (by decide) rfl rfl rfl ?_
    refine WL.pass (by decide) rfl rfl rfl ?_
    refine WL.pass (by decide) rfl rfl rfl ?_
    refine WL.pass (by decide) rfl rfl rfl ?_
    refine WL.pass (by decide) rfl rfl rfl ?_
    refine WL.op (by decide) (R.pickT rfl rfl) ?_
    refine WL.op (by decide) (R.move rfl) ?_
    refine WL.pass (by decide) rfl rfl rfl ?_
    refine WL.pass (by decide) rfl rfl rfl ?_
    refine WL.pass (by decide) rfl rfl rfl ?_
    refine WL.pass (by decide) rfl rfl rfl ?_
    refine WL.pass (by decide) rfl rfl rfl ?_
    refine WL.op (by decide) (R.pickT rfl rfl) ?_
    refine WL.op (by decide) (R.move rfl) ?_
    refine WL.pass (by decide) rfl rfl rfl ?_
    refine WL.pass (by decide) rfl rfl rfl ?_
    refine WL.pass (by decide) rfl rfl rfl ?_
    refine WL.pass (by decide) rfl rfl rfl ?_
    refine WL.pass (by decide) rfl rfl rfl ?_
    refine WL.op (by decide) (R.pickT rfl rfl) ?_
    refine WL.op (by decide) (R.move rfl) ?_
    refine WL.pass (by decide) rfl rfl rfl ?_
    refine WL.pass (by decide) rfl rfl rfl ?_
    refine WL.pass (by decide) rfl rfl rfl ?_
    refine WL.pass (by decide) rfl rfl rfl ?_
    refine WL.pass (by decide) rfl rfl rfl ?_
    refine WL.op (by decide) (R.pickT rfl rfl) ?_
    refine WL.op (by decide) (R.move rfl) ?_
    refine WL.pass (by decide) rfl rfl rfl ?_
    refine WL.pass (by decide) rfl rfl rfl ?_
    refine WL.pass (by decide) rfl rfl rfl ?_
    refine WL.pass (by decide) rfl rfl rfl ?_
    refine WL.pass (by decide) rfl rfl rfl ?_
    refine WL.op (by decide) (R.pickT rfl rfl) ?_
    refine WL.op (by decide) (R.move rfl) ?_
    refine WL.pass (by decide) rfl rfl rfl ?_
    refine WL.pass (by decide) rfl rfl rfl ?_
    refine WL.pass (by decide) rfl rfl rfl ?_
    refine WL.pass (by decide) rfl rfl rfl ?_
    refine WL.pass (by decide) rfl rfl rfl ?_
    refine WL.pass (by decide) rfl rfl rfl ?_
    refine WL.pass (by decide) rfl rfl rfl ?_
    refine WL.op (by decide) (R.pickT rfl rfl) ?_
    refine WL.op (by decide) (R.move rfl) ?_
    refine WL.pass (by decide) rfl rfl rfl ?_
    refine WL.pass (by decide) rfl rfl rfl ?_
    refine WL.pass (by decide) rfl rfl rfl ?_
    refine WL.pass (by decide) rfl rfl rfl ?_
    refine WL.pass (by decide) rfl rfl rfl ?_
    refine WL.pass (by decide) rfl rfl rfl ?_
    refine WL.pass (by decide) rfl rfl rfl ?_
    refine WL.op (by decide) (R.pickT rfl rfl) ?_
    refine WL.next ?_
    refine CW.condT rfl ?_
    refine CW.rseq ?_
    refine WL.op (by decide) (R.assign rfl) ?_
    refine WL.next ?_
    refine CW.ret ?_
    refine EW.thenRet ?_
    refine EW.ret1 (.inl rfl) rfl rfl ⟨congrArg (fun b => Ending.returned (.bool b)) (sameM_no (fun e => ?_)).symm, hC⟩
    subst e
    simp_all
  · skip
    refine WL.op (by decide) (R.move rfl) ?_
    refine WL.gop (by decide) rfl rfl rfl (FA33_1 rfl) ?_
    refine WL.gop (by decide) rfl rfl rfl (R.load Tryd.underlying4 rfl rfl (cell_at hA rfl)) ?_
    refine WL.gop (by decide) rfl rfl rfl (FA33_1 rfl) ?_
    refine WL.gop (by decide) rfl rfl rfl (R.load Tryd.underlying4 rfl rfl (cell_at hB rfl)) ?_
    refine WL.gsplit _ (by decide) rfl rfl rfl (R.neqBD (a := a.reply) (b := b.reply) rfl rfl) (fun h2 => ?_) (fun h2 => ?_)
    · skip
      refine WL.op (by decide) (R.pickF rfl rfl) ?_
      refine WL.op (by decide) (R.move rfl) ?_
      refine WL.pass (by decide) rfl rfl rfl ?_
      refine WL.pass (by decide) rfl rfl rfl ?_
      refine WL.pass (by decide) rfl rfl rfl ?_
      refine WL.pass (by decide) rfl rfl rfl ?_
      refine WL.pass (by decide) rfl rfl rfl ?_
      refine WL.op (by decide) (R.pickT rfl rfl) ?_
      refine WL.op (by decide) (R.move rfl) ?_
      refine WL.pass (by decide) rfl rfl rfl ?_
      refine WL.pass (by decide) rfl rfl rfl ?_
      refine WL.pass (by decide) rfl rfl rfl ?_
      refine WL.pass (by decide) rfl rfl rfl ?_
      refine WL.pass (by decide) rfl rfl rfl ?_
      refine WL.op (by decide) (R.pickT rfl rfl) ?_
      refine WL.op (by decide) (R.move rfl) ?_
      refine WL.pass (by decide) rfl rfl rfl ?_
      refine WL.pass (by decide) rfl rfl rfl ?_
      refine WL.pass (by decide) rfl rfl rfl ?_
      refine WL.pass (by decide) rfl rfl rfl ?_
      refine WL.pass (by decide) rfl rfl rfl ?_
      refine WL.op (by decide) (R.pickT rfl rfl) ?_
      refine WL.op (by decide) (R.move rfl) ?_
      refine WL.pass (by decide) rfl rfl rfl ?_
      refine WL.pass (by decide) rfl rfl rfl ?_
      refine WL.pass (by decide) rfl rfl rfl ?_
      refine WL.pass (by decide) rfl rfl rfl ?_
      refine WL.pass (by decide) rfl rfl rfl ?_
      refine WL.op (by decide) (R.pickT rfl rfl) ?_
      refine WL.op (by decide) (R.move rfl) ?_
      refine WL.pass (by decide) rfl rfl rfl ?_
      refine WL.pass (by decide) rfl rfl rfl ?_
      refine WL.pass (by decide) rfl rfl rfl ?_
      refine WL.pass (by decide) rfl rfl rfl ?_
      refine WL.pass (by decide) rfl rfl rfl ?_
      refine WL.pass (by decide) rfl rfl rfl ?_
      refine WL.pass (by decide) rfl rfl rfl ?_
      refine WL.op (by decide) (R.pickT rfl rfl) ?_
      refine WL.op (by decide) (R.move rfl) ?_
      refine WL.pass (by decide) rfl rfl rfl ?_
      refine WL.pass (by decide) rfl rfl rfl ?_
      refine WL.pass (by decide) rfl rfl rfl ?_
      refine WL.pass (by decide) rfl rfl rfl ?_
      refine WL.pass (by decide) rfl rfl rfl ?_
      refine WL.pass (by decide) rfl rfl rfl ?_
      refine WL.pass (by decide) rfl rfl rfl ?_
      refine WL.op (by decide) (R.pickT rfl rfl) ?_
      refine WL.next ?_
      refine CW.condT rfl ?_
      refine CW.rseq ?_
      refine WL.op (by decide) (R.assign rfl) ?_
      refine WL.next ?_
      refine CW.ret ?_
      refine EW.thenRet ?_
      refine EW.ret1 (.inl rfl) rfl rfl ⟨congrArg (fun b => Ending.returned (.bool b)) (sameM_no (fun e => ?_)).symm, hC⟩
      subst e
      simp_all
    · skip
      refine WL.op (by decide) (R.pickF rfl rfl) ?_
      refine WL.op (by decide) (R.move rfl) ?_
      refine WL.gop (by decide) rfl rfl rfl (FA33_2 rfl) ?_
      refine WL.gop (by decide) rfl rfl rfl (R.load Tryd.underlying4 rfl rfl (cell_at hA rfl)) ?_
      refine WL.gop (by decide) rfl rfl rfl (FA33_2 rfl) ?_
      refine WL.gop (by decide) rfl rfl rfl (R.load Tryd.underlying4 rfl rfl (cell_at hB rfl)) ?_
      refine WL.gsplit _ (by decide) rfl rfl rfl (R.neqBD (a := a.trunc) (b := b.trunc) rfl rfl) (fun h3 => ?_) (fun h3 => ?_)
      · skip
        refine WL.op (by decide) (R.pickF rfl rfl) ?_
        refine WL.op (by decide) (R.move rfl) ?_
        refine WL.pass (by decide) rfl rfl rfl ?_
        refine WL.pass (by decide) rfl rfl rfl ?_
        refine WL.pass (by decide) rfl rfl rfl ?_
        refine WL.pass (by decide) rfl rfl rfl ?_
        refine WL.pass (by decide) rfl rfl rfl ?_
        refine WL.op (by decide) (R.pickT rfl rfl) ?_
        refine WL.op (by decide) (R.move rfl) ?_
        refine WL.pass (by decide) rfl rfl rfl ?_
        refine WL.pass (by decide) rfl rfl rfl ?_
        refine WL.pass (by decide) rfl rfl rfl ?_
        refine WL.pass (by decide) rfl rfl rfl ?_
        refine WL.pass (by decide) rfl rfl rfl ?_
        refine WL.op (by decide) (R.pickT rfl rfl) ?_
        refine WL.op (by decide) (R.move rfl) ?_
        refine WL.pass (by decide) rfl rfl rfl ?_
        refine WL.pass (by decide) rfl rfl rfl ?_
        refine WL.pass (by decide) rfl rfl rfl ?_
        refine WL.pass (by decide) rfl rfl rfl ?_
        refine WL.pass (by decide) rfl rfl rfl ?_
        refine WL.op (by decide) (R.pickT rfl rfl) ?_
        refine WL.op (by decide) (R.move rfl) ?_
        refine WL.pass (by decide) rfl rfl rfl ?_
        refine WL.pass (by decide) rfl rfl rfl ?_
        refine WL.pass (by decide) rfl rfl rfl ?_
        refine WL.pass (by decide) rfl rfl rfl ?_
        refine WL.pass (by decide) rfl rfl rfl ?_
        refine WL.pass (by decide) rfl rfl rfl ?_
        refine WL.pass (by decide) rfl rfl rfl ?_
        refine WL.op (by decide) (R.pickT rfl rfl) ?_
        refine WL.op (by decide) (R.move rfl) ?_
        refine WL.pass (by decide) rfl rfl rfl ?_
        refine WL.pass (by decide) rfl rfl rfl ?_
        refine WL.pass (by decide) rfl rfl rfl ?_
        refine WL.pass (by decide) rfl rfl rfl ?_
        refine WL.pass (by decide) rfl rfl rfl ?_
        refine WL.pass (by decide) rfl rfl rfl ?_
        refine WL.pass (by decide) rfl rfl rfl ?_
        refine WL.op (by decide) (R.pickT rfl rfl) ?_
        refine WL.next ?_
        refine CW.condT rfl ?_
        refine CW.rseq ?_
        refine WL.op (by decide) (R.assign rfl) ?_
        refine WL.next ?_
        refine CW.ret ?_
        refine EW.thenRet ?_
        refine EW.ret1 (.inl rfl) rfl rfl ⟨congrArg (fun b => Ending.returned (.bool b)) (sameM_no (fun e => ?_)).symm, hC⟩
        subst e
        simp_all
      · skip
        refine WL.op (by decide) (R.pickF rfl rfl) ?_
        refine WL.op (by decide) (R.move rfl) ?_
        refine WL.gop (by decide) rfl rfl rfl (FA33_3 rfl) ?_
        refine WL.gop (by decide) rfl rfl rfl (R.load Tryd.underlying4 rfl rfl (cell_at hA rfl)) ?_
        refine WL.gop (by decide) rfl rfl rfl (FA33_3 rfl) ?_
        refine WL.gop (by decide) rfl rfl rfl (R.load Tryd.underlying4 rfl rfl (cell_at hB rfl)) ?_
        refine WL.gsplit _ (by decide) rfl rfl rfl (R.neqBD (a := a.recur) (b := b.recur) rfl rfl) (fun h4 => ?_) (fun h4 => ?_)
        · skip
          refine WL.op (by decide) (R.pickF rfl rfl) ?_
          refine WL.op (by decide) (R.move rfl) ?_
          refine WL.pass (by decide) rfl rfl rfl ?_
          refine WL.pass (by decide) rfl rfl rfl ?_
          refine WL.pass (by decide) rfl rfl rfl ?_
          refine WL.pass (by decide) rfl rfl rfl ?_
          refine WL.pass (by decide) rfl rfl rfl ?_
          refine WL.op (by decide) (R.pickT rfl rfl) ?_
          refine WL.op (by decide) (R.move rfl) ?_
          refine WL.pass (by decide) rfl rfl rfl ?_
          refine WL.pass (by decide) rfl rfl rfl ?_
          refine WL.pass (by decide) rfl rfl rfl ?_
          refine WL.pass (by decide) rfl rfl rfl ?_
          refine WL.pass (by decide) rfl rfl rfl ?_
          refine WL.op (by decide) (R.pickT rfl rfl) ?_
          refine WL.op (by decide) (R.move rfl) ?_
          refine WL.pass (by decide) rfl rfl rfl ?_
          refine WL.pass (by decide) rfl rfl rfl ?_
          refine WL.pass (by decide) rfl rfl rfl ?_
          refine WL.pass (by decide) rfl rfl rfl ?_
          refine WL.pass (by decide) rfl rfl rfl ?_
          refine WL.pass (by decide) rfl rfl rfl ?_
          refine WL.pass (by decide) rfl rfl rfl ?_
          refine WL.op (by decide) (R.pickT rfl rfl) ?_
          refine WL.op (by decide) (R.move rfl) ?_
          refine WL.pass (by decide) rfl rfl rfl ?_
          refine WL.pass (by decide) rfl rfl rfl ?_
          refine WL.pass (by decide) rfl rfl rfl ?_
          refine WL.pass (by decide) rfl rfl rfl ?_
          refine WL.pass (by decide) rfl rfl rfl ?_
          refine WL.pass (by decide) rfl rfl rfl ?_
          refine WL.pass (by decide) rfl rfl rfl ?_
          refine WL.op (by decide) (R.pickT rfl rfl) ?_
          refine WL.next ?_
          refine CW.condT rfl ?_
          refine CW.rseq ?_
          refine WL.op (by decide) (R.assign rfl) ?_
          refine WL.next ?_
          refine CW.ret ?_
          refine EW.thenRet ?_
          refine EW.ret1 (.inl rfl) rfl rfl ⟨congrArg (fun b => Ending.returned (.bool b)) (sameM_no (fun e => ?_)).symm, hC⟩
          subst e
          simp_all
        · skip
          refine WL.op (by decide) (R.pickF rfl rfl) ?_
          refine WL.op (by decide) (R.move rfl) ?_
          refine WL.gop (by decide) rfl rfl rfl (FA33_4 rfl) ?_
          refine WL.gop (by decide) rfl rfl rfl (R.load Tryd.underlying3 rfl rfl (cell_at hA rfl)) ?_
          refine WL.gop (by decide) rfl rfl rfl (FA33_4 rfl) ?_
          refine WL.gop (by decide) rfl rfl rfl (R.load Tryd.underlying3 rfl rfl (cell_at hB rfl)) ?_
          refine WL.gsplit _ (by decide) rfl rfl rfl (R.neqD rfl rfl) (fun h5 => ?_) (fun h5 => ?_)
          · skip
            refine WL.op (by decide) (R.pickF rfl rfl) ?_
            refine WL.op (by decide) (R.move rfl) ?_
            refine WL.pass (by decide) rfl rfl rfl ?_
            refine WL.pass (by decide) rfl rfl rfl ?_
            refine WL.pass (by decide) rfl rfl rfl ?_
            refine WL.pass (by decide) rfl rfl rfl ?_
            refine WL.pass (by decide) rfl rfl rfl ?_
            refine WL.op (by decide) (R.pickT rfl rfl) ?_
            refine WL.op (by decide) (R.move rfl) ?_
            refine WL.pass (by decide) rfl rfl rfl ?_
            refine WL.pass (by decide) rfl rfl rfl ?_
            refine WL.pass (by decide) rfl rfl rfl ?_
            refine WL.pass (by decide) rfl rfl rfl ?_
            refine WL.pass (by decide) rfl rfl rfl ?_
            refine WL.pass (by decide) rfl rfl rfl ?_
            refine WL.pass (by decide) rfl rfl rfl ?_
            refine WL.op (by decide) (R.pickT rfl rfl) ?_
            refine WL.op (by decide) (R.move rfl) ?_
            refine WL.pass (by decide) rfl rfl rfl ?_
            refine WL.pass (by decide) rfl rfl rfl ?_
            refine WL.pass (by decide) rfl rfl rfl ?_
            refine WL.pass (by decide) rfl rfl rfl ?_
            refine WL.pass (by decide) rfl rfl rfl ?_
            refine WL.pass (by decide) rfl rfl rfl ?_
            refine WL.pass (by decide) rfl rfl rfl ?_
            refine WL.op (by decide) (R.pickT rfl rfl) ?_
            refine WL.next ?_
            refine CW.condT rfl ?_
            refine CW.rseq ?_
            refine WL.op (by decide) (R.assign rfl) ?_
            refine WL.next ?_
            refine CW.ret ?_
            refine EW.thenRet ?_
            refine EW.ret1 (.inl rfl) rfl rfl ⟨congrArg (fun b => Ending.returned (.bool b)) (sameM_no (fun e => ?_)).symm, hC⟩
            subst e
            simp_all
          · skip
            refine WL.op (by decide) (R.pickF rfl rfl) ?_
            refine WL.op (by decide) (R.move rfl) ?_
            refine WL.gop (by decide) rfl rfl rfl (FA33_5 rfl) ?_
            refine WL.gop (by decide) rfl rfl rfl (R.loadAgg1 (cs := [sv a.qname, .int .i64 a.qtype]) Tryd.underlying25 rfl sz25 rfl (fun j u hj => cell_at hA (by match j, hj with | 0, hj => exact hj | 1, hj => exact hj))) ?_
            refine WL.gop (by decide) rfl rfl rfl (FA33_5 rfl) ?_
            refine WL.gop (by decide) rfl rfl rfl (R.loadAgg1 (cs := [sv b.qname, .int .i64 b.qtype]) Tryd.underlying25 rfl sz25 rfl (fun j u hj => cell_at hB (by match j, hj with | 0, hj => exact hj | 1, hj => exact hj))) ?_
            refine WL.gsplit _ (by decide) rfl rfl rfl (R.neq25D (a := a.qname) (b := b.qname) (m := a.qtype) (n := b.qtype) rfl rfl) (fun h6 => ?_) (fun h6 => ?_)
            · skip
              refine WL.op (by decide) (R.pickF rfl rfl) ?_
              refine WL.op (by decide) (R.move rfl) ?_
              refine WL.pass (by decide) rfl rfl rfl ?_
              refine WL.pass (by decide) rfl rfl rfl ?_
              refine WL.pass (by decide) rfl rfl rfl ?_
              refine WL.pass (by decide) rfl rfl rfl ?_
              refine WL.pass (by decide) rfl rfl rfl ?_
              refine WL.pass (by decide) rfl rfl rfl ?_
              refine WL.pass (by decide) rfl rfl rfl ?_
              refine WL.op (by decide) (R.pickT rfl rfl) ?_
              refine WL.op (by decide) (R.move rfl) ?_
              refine WL.pass (by decide) rfl rfl rfl ?_
              refine WL.pass (by decide) rfl rfl rfl ?_
              refine WL.pass (by decide) rfl rfl rfl ?_
              refine WL.pass (by decide) rfl rfl rfl ?_
              refine WL.pass (by decide) rfl rfl rfl ?_
              refine WL.pass (by decide) rfl rfl rfl ?_
              refine WL.pass (by decide) rfl rfl rfl ?_
              refine WL.op (by decide) (R.pickT rfl rfl) ?_
              refine WL.next ?_
              refine CW.condT rfl ?_
              refine CW.rseq ?_
              refine WL.op (by decide) (R.assign rfl) ?_
              refine WL.next ?_
              refine CW.ret ?_
              refine EW.thenRet ?_
              refine EW.ret1 (.inl rfl) rfl rfl ⟨congrArg (fun b => Ending.returned (.bool b)) (sameM_no (fun e => ?_)).symm, hC⟩
              subst e
              simp_all
            · skip
              refine WL.op (by decide) (R.pickF rfl rfl) ?_
              refine WL.op (by decide) (R.move rfl) ?_
              refine WL.gop (by decide) rfl rfl rfl (FA33_6 rfl) ?_
              refine WL.gop (by decide) rfl rfl rfl (R.load Tryd.underlying31 rfl rfl (cell_at hA rfl)) ?_
              refine WL.gop (by decide) rfl rfl rfl (R.lenSlice rfl Tryd.underlying31 rfl) ?_
              refine WL.gop (by decide) rfl rfl rfl (FA33_6 rfl) ?_
              refine WL.gop (by decide) rfl rfl rfl (R.load Tryd.underlying31 rfl rfl (cell_at hB rfl)) ?_
              refine WL.gop (by decide) rfl rfl rfl (R.lenSlice rfl Tryd.underlying31 rfl) ?_
              refine WL.gsplit _ (by decide) rfl rfl rfl (R.neqD rfl rfl) (fun h7 => ?_) (fun h7 => ?_)
              · skip
                refine WL.op (by decide) (R.pickF rfl rfl) ?_
                refine WL.op (by decide) (R.move rfl) ?_
                refine WL.pass (by decide) rfl rfl rfl ?_
                refine WL.pass (by decide) rfl rfl rfl ?_
                refine WL.pass (by decide) rfl rfl rfl ?_
                refine WL.pass (by decide) rfl rfl rfl ?_
                refine WL.pass (by decide) rfl rfl rfl ?_
                refine WL.pass (by decide) rfl rfl rfl ?_
                refine WL.pass (by decide) rfl rfl rfl ?_
                refine WL.op (by decide) (R.pickT rfl rfl) ?_
                refine WL.next ?_
                refine CW.condT rfl ?_
                refine CW.rseq ?_
                refine WL.op (by decide) (R.assign rfl) ?_
                refine WL.next ?_
                refine CW.ret ?_
                refine EW.thenRet ?_
                refine EW.ret1 (.inl rfl) rfl rfl ⟨congrArg (fun b => Ending.returned (.bool b)) (sameM_no (fun e => ?_)).symm, hC⟩
                subst e
                simp_all
              · skip
                refine WL.op (by decide) (R.pickF rfl rfl) ?_
                refine WL.op (by decide) (R.move rfl) ?_
                refine WL.gop (by decide) rfl rfl rfl (FA33_7 rfl) ?_
                refine WL.gop (by decide) rfl rfl rfl (R.load Tryd.underlying31 rfl rfl (cell_at hA rfl)) ?_
                refine WL.gop (by decide) rfl rfl rfl (R.lenSlice rfl Tryd.underlying31 rfl) ?_
                refine WL.gop (by decide) rfl rfl rfl (FA33_7 rfl) ?_
                refine WL.gop (by decide) rfl rfl rfl (R.load Tryd.underlying31 rfl rfl (cell_at hB rfl)) ?_
                refine WL.gop (by decide) rfl rfl rfl (R.lenSlice rfl Tryd.underlying31 rfl) ?_
                refine WL.gsplit _ (by decide) rfl rfl rfl (R.neqD rfl rfl) (fun h8 => ?_) (fun h8 => ?_)
                · skip
                  refine WL.op (by decide) (R.pickF rfl rfl) ?_
                  refine WL.next ?_
                  refine CW.condT rfl ?_
                  refine CW.rseq ?_
                  refine WL.op (by decide) (R.assign rfl) ?_
                  refine WL.next ?_
                  refine CW.ret ?_
                  refine EW.thenRet ?_
                  refine EW.ret1 (.inl rfl) rfl rfl ⟨congrArg (fun b => Ending.returned (.bool b)) (sameM_no (fun e => ?_)).symm, hC⟩
                  subst e
                  simp_all
                · skip
                  refine WL.op (by decide) (R.pickF rfl rfl) ?_
                  refine WL.next ?_
                  refine CW.condF rfl ?_
                  refine CW.skip ?_
                  refine EW.next ?_
                  refine CW.seq ?_
                  refine CW.rseq ?_
                  refine WL.op (by decide) (FA33_6 rfl) ?_
                  refine WL.op (by decide) (R.load Tryd.underlying31 rfl rfl (cell_at hA rfl)) ?_
                  refine WL.op (by decide) (R.lenSlice rfl Tryd.underlying31 rfl) ?_
                  refine WL.op (by decide) (R.move rfl) ?_
                  refine WL.next ?_
                  refine CW.block ?_
                  refine CW.loopK [2, 3, 67, 68] (fun k l wr => Chg (fun _ => False) w0 wr ∧ wr.heap[ba]? = some (.cells (a.cells (.slice Aa a.ans.length ca) (.slice Ba a.auth.length da)).toArray 33 (0, 0)) ∧ wr.heap[bb]? = some (.cells (b.cells (.slice Ab b.ans.length cb) (.slice Bb b.auth.length db)).toArray 33 (0, 0)) ∧ RSl wr (.slice Aa a.ans.length ca) a.ans ∧ RSl wr (.slice Ba a.auth.length da) a.auth ∧ RSl wr (.slice Ab b.ans.length cb) b.ans ∧ RSl wr (.slice Bb b.auth.length db) b.auth ∧ ∃ (j : Nat) (jj : Int), j + k = a.ans.length ∧ jj = (j : Int) ∧ l = [(2, .pointer (some ⟨ba, 0, none⟩)), (3, .pointer (some ⟨bb, 0, none⟩)), (67, .int .i64 a.ans.length), (68, .int .i64 jj)] ∧ a.ans.take j = b.ans.take j) (a.ans.length) ?_ ?_
                  · exact ⟨hC, hA, hB, hAa, hBa, hAb, hBb, 0, 0, by omega, rfl, rfl, rfl⟩
                  · rintro k l wr ⟨hC, hA, hB, hAa, hBa, hAb, hBb, j, jj, hk, rfl, rfl, htk⟩
                    refine CW.rseq ?_
                    refine WL.lssS (by decide) rfl rfl (fun h9 => ?_) (fun h9 => ?_)
                    · skip
                      refine WL.next ?_
                      refine CW.seq ?_
                      refine CW.condT rfl ?_
                      refine CW.skip ?_
                      refine EW.next ?_
                      refine CW.seq ?_
                      refine CW.block ?_
                      refine CW.rseq ?_
                      refine WL.op (by decide) (R.move rfl) ?_
                      refine WL.op (by decide) (R.assign rfl) ?_
                      refine WL.next ?_
                      refine CW.seq ?_
                      obtain ⟨x, hx⟩ : ∃ x, a.ans[j]? = some x := ⟨a.ans[j]'(by omega), List.getElem?_eq_getElem _⟩
                      obtain ⟨y, hy⟩ : ∃ y, b.ans[j]? = some y := ⟨b.ans[j]'(by omega), List.getElem?_eq_getElem _⟩
                      obtain ⟨hx16, _, gx, ox, hgx, hcx⟩ := hAa.at hx
                      obtain ⟨hy16, _, gy, oy, hgy, hcy⟩ := hAb.at hy
                      refine CW.draw (fun w => w.heap[ba]? = some (.cells (a.cells (.slice Aa a.ans.length ca) (.slice Ba a.auth.length da)).toArray 33 (0, 0)) ∧ w.heap[bb]? = some (.cells (b.cells (.slice Ab b.ans.length cb) (.slice Bb b.auth.length db)).toArray 33 (0, 0)) ∧ (∀ i u, x.cells[i]? = some u → w.cell? ⟨gx, ox + j * 21 + i, none⟩ = some u) ∧ (∀ i u, y.cells[i]? = some u → w.cell? ⟨gy, oy + j * 21 + i, none⟩ = some u)) (by kernel_rfl) ?_
                      have hC := hC.trans (Chg.drew (fun _ => False) _)
                      have hA := (Chg.drew (fun _ => False) _).at hA (fun e => e)
                      have hB := (Chg.drew (fun _ => False) _).at hB (fun e => e)
                      have hAa := hAa.kept (Chg.drew (fun _ => False) _) (fun _ _ e => e)
                      have hBa := hBa.kept (Chg.drew (fun _ => False) _) (fun _ _ e => e)
                      have hAb := hAb.kept (Chg.drew (fun _ => False) _) (fun _ _ e => e)
                      have hBb := hBb.kept (Chg.drew (fun _ => False) _) (fun _ _ e => e)
                      refine AH.take 0 rfl (by kernel_rfl) (by kernel_rfl) (by kernel_rfl) (fun _ _ _ _ h => h) ⟨hA, hB, hcx, hcy⟩ (by decide) (fun w hS => FA33_6 rfl) ?_
                      refine AH.take 1 rfl (by kernel_rfl) (by kernel_rfl) (by kernel_rfl) (fun _ _ _ _ h => h) ⟨hA, hB, hcx, hcy⟩ (by decide) (fun w hS => R.load (v := .slice (some ⟨gx, ox, none⟩) a.ans.length ca) Tryd.underlying31 rfl rfl (cell_at hS.1 (by rw [← hgx]; rfl))) ?_
                      refine AH.take 2 rfl (by kernel_rfl) (by kernel_rfl) (by kernel_rfl) (fun _ _ _ _ h => h) ⟨hA, hB, hcx, hcy⟩ (by decide) (fun w hS => R.move rfl) ?_
                      refine AH.take 3 rfl (by kernel_rfl) (by kernel_rfl) (by kernel_rfl) (fun _ _ _ _ h => h) ⟨hA, hB, hcx, hcy⟩ (by decide) (fun w hS => R.indexAddr1 (i := j) Tryd.underlying31 sz57 rfl rfl rfl (by omega)) ?_
                      refine AH.take 4 rfl (by kernel_rfl) (by kernel_rfl) (by kernel_rfl) (fun _ _ _ _ h => h) ⟨hA, hB, hcx, hcy⟩ (by decide) (fun w hS => R.loadR (r := x) hx16 rfl hS.2.2.1) ?_
                      refine AH.take 5 rfl (by kernel_rfl) (by kernel_rfl) (by kernel_rfl) (fun _ _ _ _ h => h) ⟨hA, hB, hcx, hcy⟩ (by decide) (fun w hS => FA33_6 rfl) ?_
                      refine AH.take 6 rfl (by kernel_rfl) (by kernel_rfl) (by kernel_rfl) (fun _ _ _ _ h => h) ⟨hA, hB, hcx, hcy⟩ (by decide) (fun w hS => R.load (v := .slice (some ⟨gy, oy, none⟩) b.ans.length cb) Tryd.underlying31 rfl rfl (cell_at hS.2.1 (by rw [← hgy]; rfl))) ?_
                      refine AH.take 7 rfl (by kernel_rfl) (by kernel_rfl) (by kernel_rfl) (fun _ _ _ _ h => h) ⟨hA, hB, hcx, hcy⟩ (by decide) (fun w hS => R.move rfl) ?_
                      refine AH.take 8 rfl (by kernel_rfl) (by kernel_rfl) (by kernel_rfl) (fun _ _ _ _ h => h) ⟨hA, hB, hcx, hcy⟩ (by decide) (fun w hS => R.indexAddr1 (i := j) Tryd.underlying31 sz57 rfl rfl rfl (by omega)) ?_
                      refine AH.take 9 rfl (by kernel_rfl) (by kernel_rfl) (by kernel_rfl) (fun _ _ _ _ h => h) ⟨hA, hB, hcx, hcy⟩ (by decide) (fun w hS => R.loadR (r := y) hy16 rfl hS.2.2.2) ?_
                      by_cases h10 : ¬ x = y
                      · skip
                        refine AH.take 10 rfl (by kernel_rfl) (by kernel_rfl) (by kernel_rfl) (fun _ _ _ _ h => h) ⟨hA, hB, hcx, hcy⟩ (by decide) (fun w hS => R.neq57 hx16 hy16 rfl rfl (c := true) (by simp [h10])) ?_
                        refine AH.done (by kernel_rfl) ?_
                        refine EW.next ?_
                        refine CW.condT rfl ?_
                        refine CW.rseq ?_
                        refine WL.op (by decide) (R.assign rfl) ?_
                        refine WL.next ?_
                        refine CW.ret ?_
                        refine EW.inRet ?_
                        refine EW.thenRet ?_
                        refine EW.thenRet ?_
                        refine EW.inRet ?_
                        refine EW.thenRet ?_
                        exact EW.ret1 (.inl rfl) rfl rfl ⟨congrArg (fun b => Ending.returned (.bool b)) (sameM_no (fun e => (show ¬ x = y by assumption) (by subst e; exact Option.some.inj (hx.symm.trans hy)))).symm, hC⟩
                      · skip
                        refine AH.take 10 rfl (by kernel_rfl) (by kernel_rfl) (by kernel_rfl) (fun _ _ _ _ h => h) ⟨hA, hB, hcx, hcy⟩ (by decide) (fun w hS => R.neq57 hx16 hy16 rfl rfl (c := false) (by simpa using h10)) ?_
                        refine AH.done (by kernel_rfl) ?_
                        refine EW.next ?_
                        refine CW.condF rfl ?_
                        refine CW.skip ?_
                        refine EW.inNormal ?_
                        refine EW.next ?_
                        refine CW.region ?_
                        refine WL.op (by decide) (R.add rfl rfl (by omega)) ?_
                        refine WL.op (by decide) (R.move rfl) ?_
                        refine WL.nil ?_
                        exact EW.roundK [2, 3, 67, 68] (k - 1) (by omega) ⟨hC, hA, hB, hAa, hBa, hAb, hBb, j + 1, _, by omega, by omega, rfl, take_next htk hx hy (Classical.byContradiction (fun e => by contradiction))⟩
                    · skip
                      refine WL.next ?_
                      refine CW.seq ?_
                      refine CW.condF rfl ?_
                      refine CW.exit ?_
                      have hans : a.ans = b.ans := by rwa [List.take_of_length_le (by omega), List.take_of_length_le (by omega)] at htk
                      refine EW.thenExit ?_
                      refine EW.thenExit ?_
                      refine EW.inHere ?_
                      refine EW.next ?_
                      refine CW.seq ?_
                      refine CW.rseq ?_
                      refine WL.op (by decide) (FA33_7 rfl) ?_
                      refine WL.op (by decide) (R.load Tryd.underlying31 rfl rfl (cell_at hA rfl)) ?_
                      refine WL.op (by decide) (R.lenSlice rfl Tryd.underlying31 rfl) ?_
                      refine WL.op (by decide) (R.move rfl) ?_
                      refine WL.next ?_
                      refine CW.block ?_
                      refine CW.loopK [2, 3, 85, 86] (fun k l wr => Chg (fun _ => False) w0 wr ∧ wr.heap[ba]? = some (.cells (a.cells (.slice Aa a.ans.length ca) (.slice Ba a.auth.length da)).toArray 33 (0, 0)) ∧ wr.heap[bb]? = some (.cells (b.cells (.slice Ab b.ans.length cb) (.slice Bb b.auth.length db)).toArray 33 (0, 0)) ∧ RSl wr (.slice Aa a.ans.length ca) a.ans ∧ RSl wr (.slice Ba a.auth.length da) a.auth ∧ RSl wr (.slice Ab b.ans.length cb) b.ans ∧ RSl wr (.slice Bb b.auth.length db) b.auth ∧ ∃ (j : Nat) (jj : Int), j + k = a.auth.length ∧ jj = (j : Int) ∧ l = [(2, .pointer (some ⟨ba, 0, none⟩)), (3, .pointer (some ⟨bb, 0, none⟩)), (85, .int .i64 a.auth.length), (86, .int .i64 jj)] ∧ a.auth.take j = b.auth.take j) (a.auth.length) ?_ ?_
                      · exact ⟨hC, hA, hB, hAa, hBa, hAb, hBb, 0, 0, by omega, rfl, rfl, rfl⟩
                      · rintro k l wr ⟨hC, hA, hB, hAa, hBa, hAb, hBb, j, jj, hk, rfl, rfl, htk⟩
                        refine CW.rseq ?_
                        refine WL.lssS (by decide) rfl rfl (fun h11 => ?_) (fun h11 => ?_)
                        · skip
                          refine WL.next ?_
                          refine CW.seq ?_
                          refine CW.condT rfl ?_
                          refine CW.skip ?_
                          refine EW.next ?_
                          refine CW.seq ?_
                          refine CW.block ?_
                          refine CW.rseq ?_
                          refine WL.op (by decide) (R.move rfl) ?_
                          refine WL.op (by decide) (R.assign rfl) ?_
                          refine WL.next ?_
                          refine CW.seq ?_
                          obtain ⟨x, hx⟩ : ∃ x, a.auth[j]? = some x := ⟨a.auth[j]'(by omega), List.getElem?_eq_getElem _⟩
                          obtain ⟨y, hy⟩ : ∃ y, b.auth[j]? = some y := ⟨b.auth[j]'(by omega), List.getElem?_eq_getElem _⟩
                          obtain ⟨hx16, _, gx, ox, hgx, hcx⟩ := hBa.at hx
                          obtain ⟨hy16, _, gy, oy, hgy, hcy⟩ := hBb.at hy
                          refine CW.draw (fun w => w.heap[ba]? = some (.cells (a.cells (.slice Aa a.ans.length ca) (.slice Ba a.auth.length da)).toArray 33 (0, 0)) ∧ w.heap[bb]? = some (.cells (b.cells (.slice Ab b.ans.length cb) (.slice Bb b.auth.length db)).toArray 33 (0, 0)) ∧ (∀ i u, x.cells[i]? = some u → w.cell? ⟨gx, ox + j * 21 + i, none⟩ = some u) ∧ (∀ i u, y.cells[i]? = some u → w.cell? ⟨gy, oy + j * 21 + i, none⟩ = some u)) (by kernel_rfl) ?_
                          have hC := hC.trans (Chg.drew (fun _ => False) _)
                          have hA := (Chg.drew (fun _ => False) _).at hA (fun e => e)
                          have hB := (Chg.drew (fun _ => False) _).at hB (fun e => e)
                          have hAa := hAa.kept (Chg.drew (fun _ => False) _) (fun _ _ e => e)
                          have hBa := hBa.kept (Chg.drew (fun _ => False) _) (fun _ _ e => e)
                          have hAb := hAb.kept (Chg.drew (fun _ => False) _) (fun _ _ e => e)
                          have hBb := hBb.kept (Chg.drew (fun _ => False) _) (fun _ _ e => e)
                          refine AH.take 0 rfl (by kernel_rfl) (by kernel_rfl) (by kernel_rfl) (fun _ _ _ _ h => h) ⟨hA, hB, hcx, hcy⟩ (by decide) (fun w hS => FA33_7 rfl) ?_
                          refine AH.take 1 rfl (by kernel_rfl) (by kernel_rfl) (by kernel_rfl) (fun _ _ _ _ h => h) ⟨hA, hB, hcx, hcy⟩ (by decide) (fun w hS => R.load (v := .slice (some ⟨gx, ox, none⟩) a.auth.length da) Tryd.underlying31 rfl rfl (cell_at hS.1 (by rw [← hgx]; rfl))) ?_
                          refine AH.take 2 rfl (by kernel_rfl) (by kernel_rfl) (by kernel_rfl) (fun _ _ _ _ h => h) ⟨hA, hB, hcx, hcy⟩ (by decide) (fun w hS => R.move rfl) ?_
                          refine AH.take 3 rfl (by kernel_rfl) (by kernel_rfl) (by kernel_rfl) (fun _ _ _ _ h => h) ⟨hA, hB, hcx, hcy⟩ (by decide) (fun w hS => R.indexAddr1 (i := j) Tryd.underlying31 sz57 rfl rfl rfl (by omega)) ?_
                          refine AH.take 4 rfl (by kernel_rfl) (by kernel_rfl) (by kernel_rfl) (fun _ _ _ _ h => h) ⟨hA, hB, hcx, hcy⟩ (by decide) (fun w hS => R.loadR (r := x) hx16 rfl hS.2.2.1) ?_
                          refine AH.take 5 rfl (by kernel_rfl) (by kernel_rfl) (by kernel_rfl) (fun _ _ _ _ h => h) ⟨hA, hB, hcx, hcy⟩ (by decide) (fun w hS => FA33_7 rfl) ?_
                          refine AH.take 6 rfl (by kernel_rfl) (by kernel_rfl) (by kernel_rfl) (fun _ _ _ _ h => h) ⟨hA, hB, hcx, hcy⟩ (by decide) (fun w hS => R.load (v := .slice (some ⟨gy, oy, none⟩) b.auth.length db) Tryd.underlying31 rfl rfl (cell_at hS.2.1 (by rw [← hgy]; rfl))) ?_
                          refine AH.take 7 rfl (by kernel_rfl) (by kernel_rfl) (by kernel_rfl) (fun _ _ _ _ h => h) ⟨hA, hB, hcx, hcy⟩ (by decide) (fun w hS => R.move rfl) ?_
                          refine AH.take 8 rfl (by kernel_rfl) (by kernel_rfl) (by kernel_rfl) (fun _ _ _ _ h => h) ⟨hA, hB, hcx, hcy⟩ (by decide) (fun w hS => R.indexAddr1 (i := j) Tryd.underlying31 sz57 rfl rfl rfl (by omega)) ?_
                          refine AH.take 9 rfl (by kernel_rfl) (by kernel_rfl) (by kernel_rfl) (fun _ _ _ _ h => h) ⟨hA, hB, hcx, hcy⟩ (by decide) (fun w hS => R.loadR (r := y) hy16 rfl hS.2.2.2) ?_
                          by_cases h12 : ¬ x = y
                          · skip
                            refine AH.take 10 rfl (by kernel_rfl) (by kernel_rfl) (by kernel_rfl) (fun _ _ _ _ h => h) ⟨hA, hB, hcx, hcy⟩ (by decide) (fun w hS => R.neq57 hx16 hy16 rfl rfl (c := true) (by simp [h12])) ?_
                            refine AH.done (by kernel_rfl) ?_
                            refine EW.next ?_
                            refine CW.condT rfl ?_
                            refine CW.rseq ?_
                            refine WL.op (by decide) (R.assign rfl) ?_
                            refine WL.next ?_
                            refine CW.ret ?_
                            refine EW.inRet ?_
                            refine EW.thenRet ?_
                            refine EW.thenRet ?_
                            refine EW.inRet ?_
                            refine EW.thenRet ?_
                            exact EW.ret1 (.inl rfl) rfl rfl ⟨congrArg (fun b => Ending.returned (.bool b)) (sameM_no (fun e => (show ¬ x = y by assumption) (by subst e; exact Option.some.inj (hx.symm.trans hy)))).symm, hC⟩
                          · skip
                            refine AH.take 10 rfl (by kernel_rfl) (by kernel_rfl) (by kernel_rfl) (fun _ _ _ _ h => h) ⟨hA, hB, hcx, hcy⟩ (by decide) (fun w hS => R.neq57 hx16 hy16 rfl rfl (c := false) (by simpa using h12)) ?_
                            refine AH.done (by kernel_rfl) ?_
                            refine EW.next ?_
                            refine CW.condF rfl ?_
                            refine CW.skip ?_
                            refine EW.inNormal ?_
                            refine EW.next ?_
                            refine CW.region ?_
                            refine WL.op (by decide) (R.add rfl rfl (by omega)) ?_
                            refine WL.op (by decide) (R.move rfl) ?_
                            refine WL.nil ?_
                            exact EW.roundK [2, 3, 85, 86] (k - 1) (by omega) ⟨hC, hA, hB, hAa, hBa, hAb, hBb, j + 1, _, by omega, by omega, rfl, take_next htk hx hy (Classical.byContradiction (fun e => by contradiction))⟩
                        · skip
                          refine WL.next ?_
                          refine CW.seq ?_
                          refine CW.condF rfl ?_
                          refine CW.exit ?_
                          have hauth : a.auth = b.auth := by rwa [List.take_of_length_le (by omega), List.take_of_length_le (by omega)] at htk
                          refine EW.thenExit ?_
                          refine EW.thenExit ?_
                          refine EW.inHere ?_
                          refine EW.next ?_
                          refine CW.rseq ?_
                          refine WL.op (by decide) (R.assign rfl) ?_
                          refine WL.next ?_
                          refine CW.ret ?_
                          exact EW.ret1 (.inl rfl) rfl rfl ⟨congrArg (fun b => Ending.returned (.bool b)) (sameM_yes (by omega) (by simpa using @h2) (by simpa using @h3) (by simpa using @h4) (by omega) (by simpa using @h6) hans hauth).symm, hC⟩
end Go.Proofs.YthcpjcgjmdfpjaaDoor

namespace Go.Proofs.YthcpjcgjmdfpjaaDoor
open Go Go.RowKit
set_option maxRecDepth 100000
set_option maxHeartbeats 4000000

def addrN (b : UInt8) : List UInt8 := [0, 0, 0, 0, 0, 0, 0, 0, 0, 0, 0, 0, 0, 0, 0, b]
def buildT (n : Int) (group : Bool) : Tr := ⟨nameN n, 1 + n / 2 ^ (3 : Int).toNat % 2, n % 4, n / 2 ^ (2 : Int).toNat % 4, addrN (byteOf n), drawId n, drawPort n, false, group, 0⟩
theorem build27_15 (b : UInt8) (w : World) : (Instr.build 27 #[(15, u8v b)]).run Tryd.prog w = .ok (.agg ((addrN b).map u8v).toArray) w := by kernel_rfl
theorem build29_7 (s : List UInt8) (ty link gen : Int) (b : UInt8) (id port : Int) (g : Bool) (w : World) : (Instr.build 29 #[(0, .agg #[sv s, .int .i64 ty]), (1, .int .i64 link), (2, .int .i64 gen), (3, .agg ((addrN b).map u8v).toArray), (4, .int .i64 id), (5, .int .i64 port), (7, .bool g)]).run Tryd.prog w = .ok (Tr.val ⟨s, ty, link, gen, addrN b, id, port, false, g, 0⟩) w := by unfold sv; kernel_rfl
theorem build_any (n : Int) (group : Bool) (w : World) : Calls Tryd.prog 22 #[.int .i64 n, .bool group] w fun e w' => e = .returned (buildT n group).val ∧ Chg (fun _ => False) w w' := by
  refine calls_cw (args := [.int .i64 n, .bool group]) Tryd.func22 rfl rfl ?_
  show CW _ _ _ 31 [(0, .int .i64 n), (1, .bool group)] w
  refine CW.rseq ?_
  refine WL.eff rfl (OP.alloc1 (.agg (Tr.cells ⟨[], 0, 0, 0, zero16, 0, 0, false, false, 0⟩).toArray) (by decide) (by kernel_rfl) ?_)
  intro w1 hc1 hs1 hT
  refine WL.next ?_
  refine CW.rseq ?_
  refine WL.op (by decide) (R.move rfl) ?_
  refine WL.eff rfl (OP.call (by decide) Tryd.func26 (by kernel_rfl) (by kernel_rfl) rfl (draw_any n w1) ?_)
  rintro ed _ ⟨rfl, rfl⟩
  refine ⟨_, rfl, ?_⟩
  refine WL.op (by decide) (R.move rfl) ?_
  refine WL.op (by decide) (R.extract rfl rfl) ?_
  refine WL.op (by decide) (R.extract rfl rfl) ?_
  refine WL.op (by decide) (R.assign rfl) ?_
  refine WL.op (by decide) (R.assign rfl) ?_
  refine WL.next ?_
  refine CW.rseq ?_
  refine WL.op (by decide) (R.move rfl) ?_
  refine WL.eff rfl (OP.call (by decide) Tryd.func33 (by kernel_rfl) (by kernel_rfl) rfl (name_any n w1) ?_)
  rintro ed w2 ⟨rfl, hc2⟩
  refine ⟨_, rfl, ?_⟩
  have hT := hc2.at hT (fun e => e)
  have hC := hc1.trans hc2
  refine WL.op (by decide) (R.move rfl) ?_
  refine WL.op (by decide) (R.shr rfl rfl (by omega)) ?_
  refine WL.op (by decide) (R.mask 1 rfl rfl (by decide) rfl rfl) ?_
  refine WL.op (by decide) (R.add rfl rfl (by omega)) ?_
  refine WL.op (by decide) (R.build (parts := [(0, _), (1, _)]) (vals := [(0, _), (1, _)]) rfl (fun w => build25_2 (nameN n) _ w)) ?_
  refine WL.op (by decide) (R.move rfl) ?_
  refine WL.op (by decide) (R.mask 2 rfl rfl (by decide) rfl rfl) ?_
  refine WL.op (by decide) (R.move rfl) ?_
  refine WL.op (by decide) (R.shr rfl rfl (by omega)) ?_
  refine WL.op (by decide) (R.mask 2 rfl rfl (by decide) rfl rfl) ?_
  refine WL.op (by decide) (R.move rfl) ?_
  refine WL.op (by decide) (R.conv35 rfl) ?_
  refine WL.op (by decide) (R.build (parts := [(15, _)]) (vals := [(15, _)]) rfl (fun w => build27_15 (byteOf n) w)) ?_
  refine WL.op (by decide) (R.move rfl) ?_
  refine WL.op (by decide) (R.move rfl) ?_
  refine WL.op (by decide) (R.move rfl) ?_
  refine WL.op (by decide) (R.build (parts := [(0, _), (1, _), (2, _), (3, _), (4, _), (5, _), (7, _)]) (vals := [(0, _), (1, _), (2, _), (3, _), (4, _), (5, _), (7, _)]) rfl (fun w => build29_7 (nameN n) _ _ _ (byteOf n) _ _ group w)) ?_
  refine WL.eff rfl (OP.storeAgg inf29.choose_spec.1 (by rw [inf29.choose_spec.2]; rfl) rfl rfl (Tr.allOne _) hT rfl ?_)
  intro w3 hc3 hs3 hT
  have hC := hC.then hc3 (fun k hk e => by omega)
  refine WL.next ?_
  refine CW.ret ?_
  exact EW.retC (.inl rfl) rfl rfl (cs := Tr.cells (buildT n group)) Tryd.underlying29 rfl sz29 (fun j u hj => cell_at hT (by rw [List.getElem?_toArray]; exact hj)) ⟨rfl, hC⟩
end Go.Proofs.YthcpjcgjmdfpjaaDoor

namespace Go.Proofs.YthcpjcgjmdfpjaaDoor
open Go Go.ChangeShapes Go.WideShapes Go.ChangeAt Go.RowKit
set_option maxRecDepth 100000

/-! ### Where the ways meet again, inside a region -/
theorem upon_cong {P : Program} {o : Oper} {a : Act} {w : World} {K K' : Act → World → Prop} {Q Q' : Exit → Act → World → Prop} (hp : ∀ c a w, Q (.panic c) a w → Q' (.panic c) a w) (ho : LetsOut Q → LetsOut Q') (hk : ∀ a w, K a w → K' a w) (h : o.wp P a w K Q) : o.wp P a w K' Q' := by
  unfold Oper.wp at *
  generalize (execOp a.eval o).run P w = r at *
  cases r with
  | ok n w' =>
    cases n <;> simp only [Oper.upon] at h ⊢ <;>
      first
        | exact hk _ _ h
        | exact Calls.mono h (fun e w'' he => by cases e <;> first | exact hk _ _ he | exact hp _ _ _ he | exact ho he)
        | exact Rows.mono h (fun _ _ he => hk _ _ he)
  | halt x w' => cases x <;> simp only [Oper.upon] at h ⊢ <;> first | exact hp _ _ _ h | exact h
theorem wpList_join {P : Program} {ops : Array Oper} {Q : Exit → Act → World → Prop} {N : Act → World → Prop} {ys : List Oper} (h2 : ∀ a w, N a w → wpList P ops Q ys a w) : ∀ (xs : List Oper) (a : Act) (w : World), wpList P ops (Exit.then N Q) xs a w → wpList P ops Q (xs ++ ys) a w
  | [], a, w, h => h2 a w h
  | o :: xs, a, w, h => by
    have ih := wpList_join h2 xs
    have hl : LetsOut (Exit.then N Q) → LetsOut Q := fun ⟨a, w, h⟩ => ⟨a, w, h⟩
    unfold wpList at h
    show wpList P ops Q (o :: (xs ++ ys)) a w
    unfold wpList
    split
    · rename_i hw
      rw [if_pos hw] at h
      exact h.imp (upon_cong (fun _ _ _ h => h) hl ih) (fun h => ⟨h.1, hl h.2⟩)
    · rename_i hw
      rw [if_neg hw] at h
      exact ih _ _ h
section
variable {P : Program} {ops : Array Oper} {Q : Exit → Act → World → Prop} {n : Nat} {l : Env} {w : World}
/-- The first k operations, and what holds behind them. -/
theorem WL.cut (k : Nat) (M : Env → World → Prop) {os : List Oper} (h1 : WL P ops (Exit.then (fun a' w' => ∃ l', Fr a' n l' ∧ M l' w') Q) (os.take k) n l w) (h2 : ∀ l w, M l w → WL P ops Q (os.drop k) n l w) : WL P ops Q os n l w := by
  intro a ha
  have := wpList_join (ys := os.drop k) (fun a' w' ⟨l', hf, hM⟩ => h2 l' w' hM a' hf) (os.take k) a w (h1 a ha)
  rwa [List.take_append_drop] at this
theorem WL.cutEnd (ks : List Nat) {M : Env → World → Prop} (hM : M (Env.keep l ks) w) : WL P ops (Exit.then (fun a' w' => ∃ l', Fr a' n l' ∧ M l' w') Q) [] n l w := fun a ha => ⟨_, ha.weaken (Env.keep_get l ks), hM⟩
end

/-! ### Chains -/
theorem Chg.thenB {S : Nat → Prop} {a b c : World} {g : Nat} (h : Chg S a b) (k : Chg (fun j => j = g) b c) (hg : a.heap.size ≤ g) : Chg S a c := h.then k (fun j hj e => absurd hj (by omega))
theorem RSl.keep0 {w w' : World} {v : Value} {rs : List Rec} (h : RSl w v rs) (hc : Chg (fun _ => False) w w') : RSl w' v rs := h.kept hc (fun _ _ e => e)
theorem Src.keep0 {w w' : World} {A : Option Addr} {m c : Nat} {bs : List UInt8} (h : Src w A m c bs) (hc : Chg (fun _ => False) w w') : Src w' A m c bs := h.kept hc (fun _ _ _ e => e)
theorem Glob.keep0 {w w' : World} (h : Glob w) (hc : Chg (fun _ => False) w w') : Glob w' := h.kept hc (fun e => e)
theorem MV.keep0 {w w' : World} {v : Value} {m : Msg} (h : MV w v m) (hc : Chg (fun _ => False) w w') : MV w' v m := h.kept hc (fun _ _ e => e)
theorem Buf.keep0 {w w' : World} {base : Nat} {v : Value} {bs : List UInt8} (h : Buf w base v bs) (hc : Chg (fun _ => False) w w') : Buf w' base v bs := h.kept hc (fun _ _ e => e)

/-! ### Messages -/
abbrev BM (w : World) (b : Nat) (m : Msg) (va vb : Value) : Prop := w.heap[b]? = some (.cells (m.cells va vb).toArray 33 (0, 0))
def msg0 : Msg := ⟨0, false, false, false, 0, [], 0, [], []⟩
theorem Msg.setId (m : Msg) (va vb : Value) (x : Int) : (m.cells va vb).toArray.setIfInBounds 0 (.int .i64 x) = (({ m with id := x } : Msg).cells va vb).toArray := by simp [Msg.cells]
theorem Msg.setType (m : Msg) (va vb : Value) (x : Int) : (m.cells va vb).toArray.setIfInBounds 6 (.int .i64 x) = (({ m with qtype := x } : Msg).cells va vb).toArray := by simp [Msg.cells]
theorem Msg.setQ (m : Msg) (va vb : Value) (s : List UInt8) (x : Int) : ((m.cells va vb).toArray.toList.take 5 ++ [sv s, .int .i64 x] ++ (m.cells va vb).toArray.toList.drop (5 + 2)).toArray = (({ m with qname := s, qtype := x } : Msg).cells va vb).toArray := by simp [Msg.cells]
theorem sl_one (A : Option Addr) (n c : Nat) : (Value.slice A n c).oneCell' = true := rfl
section
variable {l : Env} {n d : Nat} {w : World} {Q : Exit → Act → World → Prop} {M : Env → World → Prop} {t ty : TypeId} {pos : String} {af : Array Edge} {x y : Operand} {b o : Nat}
theorem OP.allocM (hdn : d < n) (h : ∀ w', Chg (fun _ => False) w w' → w'.heap.size = w.heap.size + 1 → BM w' w.heap.size msg0 (.slice none 0 0) (.slice none 0 0) → M ((d, .pointer (some ⟨w.heap.size, 0, none⟩)) :: l) w') :
    OP Tryd.prog Q ⟨some d, .alloc 33, t, pos, af, none⟩ n l w M :=
  OP.alloc1 (.agg (msg0.cells (.slice none 0 0) (.slice none 0 0)).toArray) hdn (by kernel_rfl) h
theorem OP.storeM {m m0 : Msg} {A A2 : Option Addr} {i c i2 c2 : Nat} {u u2 : Value} (hx : ev l x = some (.pointer (some ⟨b, 0, none⟩))) (hy : ev l y = some (.agg (m.cells (.slice A i c) (.slice A2 i2 c2)).toArray)) (hb : BM w b m0 u u2)
    (h : ∀ w', Chg (fun k => k = b) w w' → w'.heap.size = w.heap.size → BM w' b m (.slice A i c) (.slice A2 i2 c2) → M l w') :
    OP Tryd.prog Q ⟨none, .store 33 x y, ty, pos, af, none⟩ n l w M :=
  OP.storeAgg inf33.choose_spec.1 (by rw [inf33.choose_spec.2]; rfl) hx hy (m_all _ _ _ _ _ _ _) hb rfl h
theorem R.loadM {m : Msg} {va vb : Value} (hx : ev l x = some (.pointer (some ⟨b, 0, none⟩))) (hb : BM w b m va vb) : Runs Tryd.prog l (.load 33 x) w (.agg (m.cells va vb).toArray) w :=
  R.loadAgg1 (cs := m.cells va vb) Tryd.underlying33 rfl sz33 hx (fun j u hj => cell_at hb (by rw [Nat.zero_add, List.getElem?_toArray]; exact hj))
theorem R.loadQ {m : Msg} {va vb : Value} (hx : ev l x = some (.pointer (some ⟨b, 5, none⟩))) (hb : BM w b m va vb) : Runs Tryd.prog l (.load 25 x) w (.agg #[sv m.qname, .int .i64 m.qtype]) w :=
  R.loadAgg1 (cs := [sv m.qname, .int .i64 m.qtype]) Tryd.underlying25 rfl sz25 hx (fun j u hj => cell_at hb (by match j, hj with | 0, hj => exact hj | 1, hj => exact hj))
theorem OP.storeId {m : Msg} {va vb : Value} {v : Int} (hx : ev l x = some (.pointer (some ⟨b, 0, none⟩))) (hy : ev l y = some (.int .i64 v)) (hb : BM w b m va vb)
    (h : ∀ w', Chg (fun k => k = b) w w' → w'.heap.size = w.heap.size → BM w' b { m with id := v } va vb → M l w') :
    OP Tryd.prog Q ⟨none, .store 3 x y, ty, pos, af, none⟩ n l w M :=
  OP.store1 sz3 hx hy rfl rfl hb (by simp [Msg.cells]) rfl (fun w' h1 h2 h3 => h w' h1 h2 (by rw [Msg.setId] at h3; exact h3))
theorem OP.storeType {m : Msg} {va vb : Value} {v : Int} (hx : ev l x = some (.pointer (some ⟨b, 6, none⟩))) (hy : ev l y = some (.int .i64 v)) (hb : BM w b m va vb)
    (h : ∀ w', Chg (fun k => k = b) w w' → w'.heap.size = w.heap.size → BM w' b { m with qtype := v } va vb → M l w') :
    OP Tryd.prog Q ⟨none, .store 3 x y, ty, pos, af, none⟩ n l w M :=
  OP.store1 sz3 hx hy rfl rfl hb (by simp [Msg.cells]) rfl (fun w' h1 h2 h3 => h w' h1 h2 (by rw [Msg.setType] at h3; exact h3))
theorem OP.storeQ {m : Msg} {va vb : Value} {s : List UInt8} {v : Int} (hx : ev l x = some (.pointer (some ⟨b, 5, none⟩))) (hy : ev l y = some (.agg #[sv s, .int .i64 v])) (hb : BM w b m va vb)
    (h : ∀ w', Chg (fun k => k = b) w w' → w'.heap.size = w.heap.size → BM w' b { m with qname := s, qtype := v } va vb → M l w') :
    OP Tryd.prog Q ⟨none, .store 25 x y, ty, pos, af, none⟩ n l w M :=
  OP.storeAt sz25 rfl hx hy (by simp [sv, Value.oneCell']) hb (by simp [Msg.cells]) (fun w' h1 h2 h3 => h w' h1 h2 (by
    have e := Msg.setQ m va vb s v
    rw [e] at h3; exact h3))
theorem OP.storeAns {m : Msg} {va vb : Value} {A : Option Addr} {i c : Nat} {rs : List Rec} (hx : ev l x = some (.pointer (some ⟨b, 7, none⟩))) (hy : ev l y = some (.slice A i c)) (hb : BM w b m va vb)
    (h : ∀ w', Chg (fun k => k = b) w w' → w'.heap.size = w.heap.size → BM w' b { m with ans := rs } (.slice A i c) vb → M l w') :
    OP Tryd.prog Q ⟨none, .store 31 x y, ty, pos, af, none⟩ n l w M :=
  OP.store1 sz31 hx hy rfl rfl hb (by simp [Msg.cells]) rfl (fun w' h1 h2 h3 => h w' h1 h2 (by
    have e : (m.cells va vb).toArray.setIfInBounds 7 (.slice A i c) = (({ m with ans := rs } : Msg).cells (.slice A i c) vb).toArray := by simp [Msg.cells]
    rw [e] at h3; exact h3))
theorem OP.storeAuth {m : Msg} {va vb : Value} {A : Option Addr} {i c : Nat} {rs : List Rec} (hx : ev l x = some (.pointer (some ⟨b, 8, none⟩))) (hy : ev l y = some (.slice A i c)) (hb : BM w b m va vb)
    (h : ∀ w', Chg (fun k => k = b) w w' → w'.heap.size = w.heap.size → BM w' b { m with auth := rs } va (.slice A i c) → M l w') :
    OP Tryd.prog Q ⟨none, .store 31 x y, ty, pos, af, none⟩ n l w M :=
  OP.store1 sz31 hx hy rfl rfl hb (by simp [Msg.cells]) rfl (fun w' h1 h2 h3 => h w' h1 h2 (by
    have e : (m.cells va vb).toArray.setIfInBounds 8 (.slice A i c) = (({ m with auth := rs } : Msg).cells va (.slice A i c)).toArray := by simp [Msg.cells]
    rw [e] at h3; exact h3))

/-! ### Questions on their way -/
abbrev BT (w : World) (b : Nat) (t : Tr) : Prop := w.heap[b]? = some (.cells t.cells.toArray 29 (0, 0))
def tr0 : Tr := ⟨[], 0, 0, 0, zero16, 0, 0, false, false, 0⟩
theorem OP.allocT (hdn : d < n) (h : ∀ w', Chg (fun _ => False) w w' → w'.heap.size = w.heap.size + 1 → BT w' w.heap.size tr0 → M ((d, .pointer (some ⟨w.heap.size, 0, none⟩)) :: l) w') :
    OP Tryd.prog Q ⟨some d, .alloc 29, t, pos, af, none⟩ n l w M :=
  OP.alloc1 (.agg tr0.cells.toArray) hdn (by kernel_rfl) h
theorem OP.storeT {T T0 : Tr} (h16 : T.to.length = 16) (h160 : T0.to.length = 16) (hx : ev l x = some (.pointer (some ⟨b, 0, none⟩))) (hy : ev l y = some T.val) (hb : BT w b T0)
    (h : ∀ w', Chg (fun k => k = b) w w' → w'.heap.size = w.heap.size → BT w' b T → M l w') :
    OP Tryd.prog Q ⟨none, .store 29 x y, ty, pos, af, none⟩ n l w M :=
  OP.storeAgg inf29.choose_spec.1 (by rw [inf29.choose_spec.2, List.size_toArray, Tr.length h16]) hx hy (Tr.allOne _) hb (by rw [List.size_toArray, List.size_toArray, Tr.length h16, Tr.length h160]) h
theorem R.loadT {T : Tr} (h16 : T.to.length = 16) (hx : ev l x = some (.pointer (some ⟨b, 0, none⟩))) (hb : BT w b T) : Runs Tryd.prog l (.load 29 x) w T.val w :=
  R.loadAgg1 (cs := T.cells) Tryd.underlying29 rfl (by rw [Tr.length h16]; exact sz29) hx (fun j u hj => cell_at hb (by rw [Nat.zero_add, List.getElem?_toArray]; exact hj))
theorem R.loadTQ {T : Tr} (hx : ev l x = some (.pointer (some ⟨b, 0, none⟩))) (hb : BT w b T) : Runs Tryd.prog l (.load 25 x) w (.agg #[sv T.qname, .int .i64 T.qtype]) w :=
  R.loadAgg1 (cs := [sv T.qname, .int .i64 T.qtype]) Tryd.underlying25 rfl sz25 hx (fun j u hj => cell_at hb (by match j, hj with | 0, hj => exact hj | 1, hj => exact hj))
theorem R.loadTTo {T : Tr} (h16 : T.to.length = 16) (hx : ev l x = some (.pointer (some ⟨b, 4, none⟩))) (hb : BT w b T) : Runs Tryd.prog l (.load 27 x) w (.agg (T.to.map u8v).toArray) w :=
  R.loadAgg1 (cs := T.to.map u8v) Tryd.underlying27 rfl (by rw [List.length_map, h16]; exact sz27) hx (fun j u hj => cell_at hb (Tr.atTo hj))
theorem Tr.setStream {T : Tr} (h16 : T.to.length = 16) (s : Bool) : T.cells.toArray.setIfInBounds 22 (.bool s) = ({ T with stream := s } : Tr).cells.toArray := by
  obtain ⟨q, a, b, c, to, i, p, st, g, u⟩ := T
  obtain ⟨a0, a1, a2, a3, a4, a5, a6, a7, a8, a9, b0, b1, b2, b3, b4, b5, rfl⟩ := list16 h16
  rfl
theorem OP.storeStream {T : Tr} {v : Bool} (h16 : T.to.length = 16) (hx : ev l x = some (.pointer (some ⟨b, 22, none⟩))) (hy : ev l y = some (.bool v)) (hb : BT w b T)
    (h : ∀ w', Chg (fun k => k = b) w w' → w'.heap.size = w.heap.size → BT w' b { T with stream := v } → M l w') :
    OP Tryd.prog Q ⟨none, .store 4 x y, ty, pos, af, none⟩ n l w M :=
  OP.store1 sz4 hx hy rfl rfl hb (by rw [List.size_toArray, Tr.length h16]; decide) rfl (fun w' h1 h2 h3 => h w' h1 h2 (by rw [Tr.setStream h16] at h3; exact h3))

/-! ### Addresses alone -/
abbrev BA (w : World) (b : Nat) (a : List UInt8) : Prop := w.heap[b]? = some (.cells (a.map u8v).toArray 27 (0, 0))
theorem u8_all (a : List UInt8) : (a.map u8v).toArray.all (·.oneCell') = true := by
  rw [Array.all_eq_true_iff_forall_mem]
  intro u hu
  exact u8v_one a u (by simpa using hu)
theorem OP.allocA (hdn : d < n) (h : ∀ w', Chg (fun _ => False) w w' → w'.heap.size = w.heap.size + 1 → BA w' w.heap.size zero16 → M ((d, .pointer (some ⟨w.heap.size, 0, none⟩)) :: l) w') :
    OP Tryd.prog Q ⟨some d, .alloc 27, t, pos, af, none⟩ n l w M :=
  OP.alloc1 (.agg (zero16.map u8v).toArray) hdn (by kernel_rfl) h
theorem OP.storeA {a a0 : List UInt8} (h16 : a.length = 16) (h160 : a0.length = 16) (hx : ev l x = some (.pointer (some ⟨b, 0, none⟩))) (hy : ev l y = some (.agg (a.map u8v).toArray)) (hb : BA w b a0)
    (h : ∀ w', Chg (fun k => k = b) w w' → w'.heap.size = w.heap.size → BA w' b a → M l w') :
    OP Tryd.prog Q ⟨none, .store 27 x y, ty, pos, af, none⟩ n l w M := by
  obtain ⟨i, hi, hz⟩ := inf_of sz27
  exact OP.storeAgg hi (by rw [hz, List.size_toArray, List.length_map, h16]) hx hy (u8_all a) hb (by rw [List.size_toArray, List.size_toArray, List.length_map, List.length_map, h16, h160]) h
theorem R.loadA {a : List UInt8} (h16 : a.length = 16) (hx : ev l x = some (.pointer (some ⟨b, 0, none⟩))) (hb : BA w b a) : Runs Tryd.prog l (.load 27 x) w (.agg (a.map u8v).toArray) w :=
  R.loadAgg1 (cs := a.map u8v) Tryd.underlying27 rfl (by rw [List.length_map, h16]; exact sz27) hx (fun j u hj => cell_at hb (by rw [Nat.zero_add, List.getElem?_toArray]; exact hj))
theorem OP.storeA1 {a : List UInt8} {i : Nat} {c : UInt8} (hi : i < a.length) (hx : ev l x = some (.pointer (some ⟨b, i, none⟩))) (hy : ev l y = some (u8v c)) (hb : BA w b a)
    (h : ∀ w', Chg (fun k => k = b) w w' → w'.heap.size = w.heap.size → BA w' b (a.set i c) → M l w') :
    OP Tryd.prog Q ⟨none, .store 5 x y, ty, pos, af, none⟩ n l w M :=
  OP.store1 sz5 hx hy rfl rfl hb (by simpa using hi) rfl (fun w' h1 h2 h3 => h w' h1 h2 (by
    have e : (a.map u8v).toArray.setIfInBounds i (u8v c) = ((a.set i c).map u8v).toArray := by simp
    rw [e] at h3; exact h3))

/-! ### Seeds and local addresses -/
theorem SeedV.length {s : SeedV} (h : s.addr.length = 16) : s.cells.length = 20 := by simp [SeedV.cells, h]
theorem SeedV.atAddr {s : SeedV} {j : Nat} {u : Value} (hj : (s.addr.map u8v)[j]? = some u) : s.cells.toArray[3 + j]? = some u := by
  have hlt := (List.getElem?_eq_some_iff.1 hj).1
  rw [Nat.add_comm, List.getElem?_toArray]
  show (s.addr.map u8v ++ [sv s.data])[j]? = _
  rw [List.getElem?_append_left hlt]; exact hj
theorem SeedV.at19 {s : SeedV} (h : s.addr.length = 16) : s.cells.toArray[19]? = some (sv s.data) := by
  rw [List.getElem?_toArray]
  show (s.addr.map u8v ++ [sv s.data])[16]? = _
  rw [List.getElem?_append_right (by simp [h])]; simp [h]
theorem SeedV.allOne (s : SeedV) : s.cells.toArray.all (·.oneCell') = true := by
  rw [Array.all_eq_true_iff_forall_mem]
  intro u hu
  simp only [SeedV.cells, List.mem_toArray, List.mem_cons, List.mem_append, List.mem_map, List.not_mem_nil, or_false] at hu
  rcases hu with rfl | rfl | rfl | ⟨c, _, rfl⟩ | rfl <;> rfl
abbrev BSd (w : World) (b : Nat) (s : SeedV) : Prop := w.heap[b]? = some (.cells s.cells.toArray 50 (0, 0))
def seed0 : SeedV := ⟨0, 0, 0, zero16, []⟩
theorem OP.allocSd (hdn : d < n) (h : ∀ w', Chg (fun _ => False) w w' → w'.heap.size = w.heap.size + 1 → BSd w' w.heap.size seed0 → M ((d, .pointer (some ⟨w.heap.size, 0, none⟩)) :: l) w') :
    OP Tryd.prog Q ⟨some d, .alloc 50, t, pos, af, none⟩ n l w M :=
  OP.alloc1 (.agg seed0.cells.toArray) hdn (by kernel_rfl) h
theorem OP.storeSd {s s0 : SeedV} (h16 : s.addr.length = 16) (h160 : s0.addr.length = 16) (hx : ev l x = some (.pointer (some ⟨b, 0, none⟩))) (hy : ev l y = some (.agg s.cells.toArray)) (hb : BSd w b s0)
    (h : ∀ w', Chg (fun k => k = b) w w' → w'.heap.size = w.heap.size → BSd w' b s → M l w') :
    OP Tryd.prog Q ⟨none, .store 50 x y, ty, pos, af, none⟩ n l w M := by
  obtain ⟨i, hi, hz⟩ := inf_of sz50
  exact OP.storeAgg hi (by rw [hz, List.size_toArray, SeedV.length h16]) hx hy s.allOne hb (by rw [List.size_toArray, List.size_toArray, SeedV.length h16, SeedV.length h160]) h
theorem R.loadSdAt {s : SeedV} {g k : Nat} (h16 : s.addr.length = 16) (hx : ev l x = some (.pointer (some ⟨g, k, none⟩))) (hc : ∀ i u, s.cells[i]? = some u → w.cell? ⟨g, k + i, none⟩ = some u) : Runs Tryd.prog l (.load 50 x) w (.agg s.cells.toArray) w :=
  R.loadAgg1 (cs := s.cells) Tryd.underlying50 rfl (by rw [SeedV.length h16]; exact sz50) hx hc
theorem R.loadSd {s : SeedV} (h16 : s.addr.length = 16) (hx : ev l x = some (.pointer (some ⟨b, 0, none⟩))) (hb : BSd w b s) : Runs Tryd.prog l (.load 50 x) w (.agg s.cells.toArray) w :=
  R.loadSdAt h16 hx (fun j u hj => cell_at hb (by rw [Nat.zero_add, List.getElem?_toArray]; exact hj))
theorem Sl.at {α : Type} {cells : α → List Value} {N : Nat} {A : Option Addr} {m : Nat} {ls : List α} (h : Sl cells N w A m ls) {j : Nat} {a : α} (hj : ls[j]? = some a) : ls.length = m ∧ ∃ g o, A = some ⟨g, o, none⟩ ∧ ∀ i u, (cells a)[i]? = some u → w.cell? ⟨g, o + j * N + i, none⟩ = some u := by
  have hlt := (List.getElem?_eq_some_iff.1 hj).1
  obtain ⟨g, o, hA, hc⟩ := h.2 (by have := h.1; omega)
  exact ⟨h.1, g, o, hA, fun i u hi => hc j a i u hj hi⟩
theorem LocalV.length {s : LocalV} (h : s.addr.length = 16) : s.cells.length = 18 := by simp [LocalV.cells, h]
theorem LocalV.atAddr {s : LocalV} {j : Nat} {u : Value} (hj : (s.addr.map u8v)[j]? = some u) : s.cells.toArray[j]? = some u := by
  have hlt := (List.getElem?_eq_some_iff.1 hj).1
  rw [List.getElem?_toArray]
  show (s.addr.map u8v ++ _)[j]? = _
  rw [List.getElem?_append_left hlt]; exact hj
theorem LocalV.allOne (s : LocalV) : s.cells.toArray.all (·.oneCell') = true := by
  rw [Array.all_eq_true_iff_forall_mem]
  intro u hu
  simp only [LocalV.cells, List.mem_toArray, List.mem_cons, List.mem_append, List.mem_map, List.not_mem_nil, or_false] at hu
  rcases hu with ⟨c, _, rfl⟩ | rfl | rfl <;> rfl
abbrev BLo (w : World) (b : Nat) (s : LocalV) : Prop := w.heap[b]? = some (.cells s.cells.toArray 70 (0, 0))
def local0 : LocalV := ⟨zero16, false, false⟩
theorem OP.allocLo (hdn : d < n) (h : ∀ w', Chg (fun _ => False) w w' → w'.heap.size = w.heap.size + 1 → BLo w' w.heap.size local0 → M ((d, .pointer (some ⟨w.heap.size, 0, none⟩)) :: l) w') :
    OP Tryd.prog Q ⟨some d, .alloc 70, t, pos, af, none⟩ n l w M :=
  OP.alloc1 (.agg local0.cells.toArray) hdn (by kernel_rfl) h
theorem OP.storeLo {s s0 : LocalV} (h16 : s.addr.length = 16) (h160 : s0.addr.length = 16) (hx : ev l x = some (.pointer (some ⟨b, 0, none⟩))) (hy : ev l y = some (.agg s.cells.toArray)) (hb : BLo w b s0)
    (h : ∀ w', Chg (fun k => k = b) w w' → w'.heap.size = w.heap.size → BLo w' b s → M l w') :
    OP Tryd.prog Q ⟨none, .store 70 x y, ty, pos, af, none⟩ n l w M := by
  obtain ⟨i, hi, hz⟩ := inf_of sz70
  exact OP.storeAgg hi (by rw [hz, List.size_toArray, LocalV.length h16]) hx hy s.allOne hb (by rw [List.size_toArray, List.size_toArray, LocalV.length h16, LocalV.length h160]) h
theorem R.loadLoAt {s : LocalV} {g k : Nat} (h16 : s.addr.length = 16) (hx : ev l x = some (.pointer (some ⟨g, k, none⟩))) (hc : ∀ i u, s.cells[i]? = some u → w.cell? ⟨g, k + i, none⟩ = some u) : Runs Tryd.prog l (.load 70 x) w (.agg s.cells.toArray) w :=
  R.loadAgg1 (cs := s.cells) Tryd.underlying70 rfl (by rw [LocalV.length h16]; exact sz70) hx hc
theorem R.loadLoA {s : LocalV} (h16 : s.addr.length = 16) (hx : ev l x = some (.pointer (some ⟨b, 0, none⟩))) (hb : BLo w b s) : Runs Tryd.prog l (.load 27 x) w (.agg (s.addr.map u8v).toArray) w :=
  R.loadAgg1 (cs := s.addr.map u8v) Tryd.underlying27 rfl (by rw [List.length_map, h16]; exact sz27) hx (fun j u hj => cell_at hb (by rw [Nat.zero_add]; exact LocalV.atAddr hj))
theorem R.loadSdA {s : SeedV} (h16 : s.addr.length = 16) (hx : ev l x = some (.pointer (some ⟨b, 3, none⟩))) (hb : BSd w b s) : Runs Tryd.prog l (.load 27 x) w (.agg (s.addr.map u8v).toArray) w :=
  R.loadAgg1 (cs := s.addr.map u8v) Tryd.underlying27 rfl (by rw [List.length_map, h16]; exact sz27) hx (fun j u hj => cell_at hb (SeedV.atAddr hj))
theorem R.loadRA {r : Rec} {g k : Nat} (h16 : r.addr.length = 16) (hx : ev l x = some (.pointer (some ⟨g, k + 3, none⟩))) (hc : ∀ i u, r.cells[i]? = some u → w.cell? ⟨g, k + i, none⟩ = some u) : Runs Tryd.prog l (.load 27 x) w (.agg (r.addr.map u8v).toArray) w :=
  R.loadAgg1 (cs := r.addr.map u8v) Tryd.underlying27 rfl (by rw [List.length_map, h16]; exact sz27) hx (fun j u hj => by
    rw [Nat.add_assoc]
    refine hc _ u ?_
    have := Rec.atAddr (r := r) hj
    rwa [List.getElem?_toArray] at this)

/-! ### Appends of a slice handed in -/
theorem OP.appendSrc {base : Nat} {v : Value} {bs news : List UInt8} {A : Option Addr} {m c : Nat} (hdn : d < n) (hx : ev l x = some v) (hy : ev l y = some (.slice A m c)) (hB : Buf w base v bs) (hS : Src w A m c news) (hA : A = none → c = 0) (hl : bs.length + m ≤ 140737488355328) (hb : base ≤ w.heap.size)
    (h : ∀ v' w', Buf w' base v' (bs ++ news) → Moved w w' v v' → M ((d, v') :: l) w') :
    OP Tryd.prog Q ⟨some d, .call { callee := .builtin .append, args := #[x, y], argTypes := #[36, 36] }, t, pos, af, none⟩ n l w M := by
  cases A with
  | none =>
    have hc := hA rfl
    have hm : m = 0 := by have := hS.cap; omega
    subst hc hm
    have hn : news = [] := List.eq_nil_of_length_eq_zero hS.len
    subst hn
    obtain ⟨i0, hi, hz0, hz1, hz2⟩ := info_parts Tryd.info5
    refine OP.val (v := v) (w' := w) hdn (fun r _ _ _ _ _ he => ?_) (h v w (by rw [List.append_nil]; exact hB) (Moved.refl _ _))
    have hr := fun ty => run_append_owned_none (P := Tryd.prog) (w := w) base 36 ty 5 i0 1 Tryd.underlying36 hi v bs.length (bs.map u8v) hB
    simp only [execOp, resolve, invoke, builtin, Sem.run_bind, Sem.run_pure, Result.andThen_ok, List.map_toArray, List.map_cons, List.map_nil, he x _ hx, he y _ hy]
    rw [hr]; rfl
  | some ad =>
    refine OP.append news hdn hx hy hB hS.len ?_ (by have := hS.len; omega) hb h
    intro j u hj
    have hlt := (List.getElem?_eq_some_iff.1 hj).1
    rw [List.length_map, hS.len] at hlt
    obtain ⟨g, o, hA2, hcell⟩ := hS.cells (by omega)
    obtain rfl := Option.some.inj hA2
    rw [List.getElem?_map] at hj
    obtain ⟨c1, hc1, rfl⟩ := Option.map_eq_some_iff.1 hj
    rw [Addr.add_none]
    exact hcell j c1 hc1

/-! ### strings.Count of one byte -/
theorem R.countStr {s : List UInt8} {c : UInt8} {ts : Array TypeId} (hx : ev l x = some (sv s)) (hy : ev l y = some (u8v c)) : Runs Tryd.prog l (.call { callee := .value (.func 56), args := #[x, y], argTypes := ts }) w (.int .i64 ((Lib.countByte s c : Nat) : Int)) w := fun r _ _ _ _ _ he => by
  have hcf : (callFunc 56 #[sv s, u8v c]).run Tryd.prog w = .ok (.value (.int .i64 ((Lib.countByte s c : Nat) : Int))) w := by
    unfold callFunc
    have h1 : (Tryd.f56.name == "runtime.NumGoroutine") = false := by kernel_rfl
    have h2 : Tryd.f56.body.isNone = true := by kernel_rfl
    have h3 : Extern.findNext Tryd.f56 = none := by kernel_rfl
    have h4 : Extern.find Tryd.f56 = some Extern.BytealgCount.count := by kernel_rfl
    have h5 := Lib.run_countString (P := Tryd.prog) ⟨s.toArray⟩ (c.toNat : Int) w
    have e1 : ((c.toNat : Int).toNat.toUInt8) = c := by
      apply UInt8.toNat_inj.1
      simp
    rw [e1] at h5
    simp only [Sem.run_bind, run_program, Result.andThen_ok, Tryd.func56, h1, h2, Bool.false_eq_true, if_false, if_true, run_mark, h3, h4]
    show Result.andThen ((Extern.BytealgCount.count #[.string ⟨s.toArray⟩, .int .u8 (c.toNat : Int)]).run Tryd.prog w) _ = _
    rw [h5]
    simp
  simp only [execOp, resolve, List.map_toArray, List.map_cons, List.map_nil, he x _ hx, he y _ hy, he (.func 56) _ rfl, Deferred.ofValue, Sem.run_bind, Sem.run_pure, Result.andThen_ok, invoke, Array.append_empty, Array.empty_append]
  exact hcf
end
end Go.Proofs.YthcpjcgjmdfpjaaDoor

namespace Go.Proofs.YthcpjcgjmdfpjaaDoor
open Go Go.RowKit
set_option maxRecDepth 100000
set_option maxHeartbeats 4000000

def fatS (s : SeedV) : Bool := decide (s.data.length ≤ 400)
theorem light_long {l : List SeedV} (h : 60 < l.length) : lightS l = false := by unfold lightS; simp; omega
theorem light_fat {l : List SeedV} {j : Nat} {s : SeedV} (hs : l[j]? = some s) (h : 400 < s.data.length) : lightS l = false := by
  unfold lightS
  have : (l.all fun s => decide (s.data.length ≤ 400)) = false := List.all_eq_false.2 ⟨s, List.mem_of_getElem? hs, by simp; omega⟩
  simp [this]
theorem light_yes {l : List SeedV} (h : ¬ 60 < l.length) (ha : l.all fatS = true) : lightS l = true := by
  unfold lightS
  have : (l.all fun s => decide (s.data.length ≤ 400)) = true := ha
  simp [this]; omega
theorem fat_take {l : List SeedV} {j : Nat} {s : SeedV} (hs : l[j]? = some s) (h : s.data.length ≤ 400) (ht : (l.take j).all fatS = true) : (l.take (j + 1)).all fatS = true := by
  rw [List.take_add_one, hs, List.all_append, ht]
  simp [fatS, h]
theorem light_any (A : Option Addr) (m c : Nat) (l : List SeedV) (w0 : World) (hL : Sl SeedV.cells 20 w0 A m l) (hO : ∀ s ∈ l, s.Ok) (hm : m ≤ maxLen) :
    Calls Tryd.prog 36 #[.slice A m c] w0 fun e w' => e = .returned (.bool (lightS l)) ∧ Chg (fun _ => False) w0 w' := by
  have hlm := hL.1
  have hC := Chg.refl (fun _ => False) w0
  have hmx : maxLen = 9223372036854775807 := rfl
  refine calls_cw (args := [.slice A m c]) Tryd.func36 rfl rfl ?_
  show CW _ _ _ 19 [(0, .slice A m c)] w0
  refine CW.rseq ?_
  refine WL.op (by decide) (R.assign rfl) ?_
  refine WL.next ?_
  refine CW.seq ?_
  refine CW.rseq ?_
  refine WL.op (by decide) (R.move rfl) ?_
  refine WL.op (by decide) (R.lenSlice rfl Tryd.underlying48 rfl) ?_
  refine WL.gtrS (by decide) rfl rfl (fun h1 => ?_) (fun h1 => ?_)
  · skip
    refine WL.next ?_
    refine CW.condT rfl ?_
    refine CW.rseq ?_
    refine WL.op (by decide) (R.assign rfl) ?_
    refine WL.next ?_
    refine CW.ret ?_
    refine EW.thenRet ?_
    exact EW.ret1 (.inl rfl) rfl rfl ⟨congrArg (fun b => Ending.returned (.bool b)) (light_long (by omega)).symm, hC⟩
  · skip
    refine WL.next ?_
    refine CW.condF rfl ?_
    refine CW.skip ?_
    refine EW.next ?_
    refine CW.seq ?_
    refine CW.rseq ?_
    refine WL.op (by decide) (R.move rfl) ?_
    refine WL.op (by decide) (R.lenSlice rfl Tryd.underlying48 rfl) ?_
    refine WL.op (by decide) (R.move rfl) ?_
    refine WL.next ?_
    refine CW.block ?_
    refine CW.loopK [8, 9, 10] (fun k le wr => Chg (fun _ => False) w0 wr ∧ ∃ (j : Nat) (jj : Int), j + k = l.length ∧ jj = (j : Int) ∧ le = [(8, .slice A m c), (9, .int .i64 m), (10, .int .i64 jj)] ∧ (l.take j).all fatS = true) (l.length) ?_ ?_
    · exact ⟨Chg.refl _ _, 0, 0, by omega, rfl, rfl, rfl⟩
    · rintro k le wr ⟨hC, j, jj, hk, rfl, rfl, htk⟩
      have hz_hC := hC.size
      refine CW.rseq ?_
      refine WL.lssS (by decide) rfl rfl (fun h2 => ?_) (fun h2 => ?_)
      · skip
        refine WL.next ?_
        refine CW.seq ?_
        refine CW.condT rfl ?_
        refine CW.skip ?_
        refine EW.next ?_
        refine CW.seq ?_
        refine CW.block ?_
        refine CW.rseq ?_
        obtain ⟨s, hs⟩ : ∃ s, l[j]? = some s := ⟨l[j]'(by omega), List.getElem?_eq_getElem _⟩
        obtain ⟨hlm2, g, o, hA, hcell⟩ := (hL.kept hC).at hs
        subst hA
        have hs16 := (hO s (List.mem_of_getElem? hs)).a
        have hsd := (hO s (List.mem_of_getElem? hs)).d
        refine WL.op (by decide) (R.indexAddr1 (i := j) Tryd.underlying48 sz50 rfl rfl (by omega) (by omega)) ?_
        refine WL.op (by decide) (R.loadSdAt hs16 rfl hcell) ?_
        refine WL.eff rfl (OP.allocSd (by decide) ?_)
        intro w1 hc_w1 hs_w1 hB4
        obtain ⟨b4, he_b4⟩ : ∃ b, b = wr.heap.size := ⟨_, rfl⟩
        rw [← he_b4] at hB4 ⊢
        have hC := hC.trans hc_w1
        have hz_w1 := hc_w1.size
        refine WL.eff rfl (OP.storeSd (by assumption) (by first | rfl | assumption) rfl rfl hB4 ?_)
        intro w2 hc_w2 hs_w2 hB4
        have hC := hC.thenB hc_w2 (by omega)
        refine WL.next ?_
        refine CW.rseq ?_
        refine WL.op (by decide) (FA50_4 rfl) ?_
        refine WL.op (by decide) (R.load Tryd.underlying9 rfl rfl (cell_at hB4 (SeedV.at19 (by assumption)))) ?_
        refine WL.op (by decide) (R.lenS rfl rfl) ?_
        refine WL.gtrS (by decide) rfl rfl (fun h3 => ?_) (fun h3 => ?_)
        · skip
          refine WL.next ?_
          refine CW.condT rfl ?_
          refine CW.rseq ?_
          refine WL.op (by decide) (R.assign rfl) ?_
          refine WL.next ?_
          refine CW.ret ?_
          refine EW.inRet ?_
          refine EW.thenRet ?_
          refine EW.thenRet ?_
          refine EW.inRet ?_
          refine EW.thenRet ?_
          exact EW.ret1 (.inl rfl) rfl rfl ⟨congrArg (fun b => Ending.returned (.bool b)) (light_fat hs (by omega)).symm, hC⟩
        · skip
          refine WL.next ?_
          refine CW.condF rfl ?_
          refine CW.skip ?_
          refine EW.inNormal ?_
          refine EW.next ?_
          refine CW.region ?_
          refine WL.op (by decide) (R.add rfl rfl (by omega)) ?_
          refine WL.op (by decide) (R.move rfl) ?_
          refine WL.nil ?_
          exact EW.roundK [8, 9, 10] (k - 1) (by omega) ⟨hC, j + 1, _, by omega, by omega, rfl, fat_take hs (by omega) htk⟩
      · skip
        refine WL.next ?_
        refine CW.seq ?_
        refine CW.condF rfl ?_
        refine CW.exit ?_
        refine EW.thenExit ?_
        refine EW.thenExit ?_
        refine EW.inHere ?_
        refine EW.next ?_
        refine CW.rseq ?_
        refine WL.op (by decide) (R.assign rfl) ?_
        refine WL.next ?_
        refine CW.ret ?_
        exact EW.ret1 (.inl rfl) rfl rfl ⟨congrArg (fun b => Ending.returned (.bool b)) (light_yes (by omega) (by rwa [List.take_of_length_le (by omega)] at htk)).symm, hC⟩
end Go.Proofs.YthcpjcgjmdfpjaaDoor

namespace Go.Proofs.YthcpjcgjmdfpjaaDoor
open Go Go.RowKit
set_option maxRecDepth 100000
set_option maxHeartbeats 4000000

section
variable {l : Env} {n d : Nat} {w : World} {Q : Exit → Act → World → Prop} {M : Env → World → Prop} {t ty : TypeId} {pos : String} {af : Array Edge} {x y : Operand} {b o : Nat} {r : Rec}
abbrev BR (w : World) (b : Nat) (r : Rec) : Prop := w.heap[b]? = some (.cells r.cells.toArray 57 (0, 0))
theorem Rec.set1 (r : Rec) (x : Int) : r.cells.toArray.setIfInBounds 1 (.int .i64 x) = ({ r with type := x } : Rec).cells.toArray := by simp [Rec.cells]
theorem OP.storeRType {v : Int} (hx : ev l x = some (.pointer (some ⟨b, 1, none⟩))) (hy : ev l y = some (.int .i64 v)) (hb : BR w b r)
    (h : ∀ w', Chg (fun k => k = b) w w' → w'.heap.size = w.heap.size → BR w' b { r with type := v } → M l w') :
    OP Tryd.prog Q ⟨none, .store 3 x y, ty, pos, af, none⟩ n l w M :=
  OP.store1 sz3 hx hy rfl rfl hb (by simp [Rec.cells]) rfl (fun w' h1 h2 h3 => h w' h1 h2 (by rw [Rec.set1] at h3; exact h3))
theorem OP.storeRText {v : List UInt8} (h16 : r.addr.length = 16) (hx : ev l x = some (.pointer (some ⟨b, 19, none⟩))) (hy : ev l y = some (sv v)) (hb : BR w b r)
    (h : ∀ w', Chg (fun k => k = b) w w' → w'.heap.size = w.heap.size → BR w' b { r with text := v } → M l w') :
    OP Tryd.prog Q ⟨none, .store 9 x y, ty, pos, af, none⟩ n l w M :=
  OP.store1 sz9 hx hy rfl rfl hb (by rw [List.size_toArray, Rec.length h16]; decide) rfl (fun w' h1 h2 h3 => h w' h1 h2 (by rw [Rec.set19 h16] at h3; exact h3))
theorem OP.storeRData {v : List UInt8} (h16 : r.addr.length = 16) (hx : ev l x = some (.pointer (some ⟨b, 20, none⟩))) (hy : ev l y = some (sv v)) (hb : BR w b r)
    (h : ∀ w', Chg (fun k => k = b) w w' → w'.heap.size = w.heap.size → BR w' b { r with data := v } → M l w') :
    OP Tryd.prog Q ⟨none, .store 9 x y, ty, pos, af, none⟩ n l w M :=
  OP.store1 sz9 hx hy rfl rfl hb (by rw [List.size_toArray, Rec.length h16]; decide) rfl (fun w' h1 h2 h3 => h w' h1 h2 (by rw [Rec.set20 h16] at h3; exact h3))
theorem OP.storeRAddr {a : List UInt8} (h16 : r.addr.length = 16) (ha : a.length = 16) (hx : ev l x = some (.pointer (some ⟨b, 3, none⟩))) (hy : ev l y = some (.agg (a.map u8v).toArray)) (hb : BR w b r)
    (h : ∀ w', Chg (fun k => k = b) w w' → w'.heap.size = w.heap.size → BR w' b { r with addr := a } → M l w') :
    OP Tryd.prog Q ⟨none, .store 27 x y, ty, pos, af, none⟩ n l w M :=
  OP.storeAt sz27 (by rw [List.size_toArray, List.length_map, ha]) hx hy (u8_all a) hb (by rw [List.size_toArray, Rec.length h16]; decide) (fun w' h1 h2 h3 => h w' h1 h2 (by
    have e := Rec.setAddr h16 ha
    rw [e] at h3; exact h3))
/-- 's[:n]' of a string. -/
theorem R.sliceHiN {s : List UInt8} {hi : Nat} {k : IntKind} (hx : ev l x = some (sv s)) (hy : ev l y = some (.int k (hi : Int))) (h2 : hi ≤ s.length) : Runs Tryd.prog l (.slice 9 x none (some y) none) w (sv (s.take hi)) w := fun r _ _ _ _ _ he => by
  unfold sv at hx
  have hb1 : (Instr.sliceBound (.int k (hi : Int)) s.length .sliceAlen).run Tryd.prog w = .ok hi w := by
    have := run_sliceBound (P := Tryd.prog) (w := w) k (hi : Int) s.length .sliceAlen (by omega) (by omega)
    simpa using this
  have hbs : (Instr.sliceBounds false s.length s.length none (some (.int k (hi : Int))) none).run Tryd.prog w = .ok (0, hi, s.length) w := by
    simp [Instr.sliceBounds, hb1]
  have hsl : (Instr.slice 9 (.string ⟨s.toArray⟩) none (some (.int k (hi : Int))) none).run Tryd.prog w = .ok (.string ((⟨s.toArray⟩ : ByteArray).extract 0 hi)) w := by
    simp only [Instr.slice, Sem.run_bind, run_underlying Tryd.underlying9, Result.andThen_ok, Option.isSome_none, Bool.false_eq_true, if_false, sv_size, hbs, Sem.run_pure]
  have hext : (⟨s.toArray⟩ : ByteArray).extract 0 hi = ⟨(s.take hi).toArray⟩ := by
    apply ByteArray.ext
    simp only [ByteArray.data_extract]
    apply Array.ext'
    simp [List.extract]
  rw [hext] at hsl
  have hat : (Instr.sliceAt 9 (.string ⟨s.toArray⟩) none (some (.int k (hi : Int))) none).run Tryd.prog w = .ok (sv (s.take hi)) w := by
    have := run_sliceAt_string (P := Tryd.prog) (w := w) 9 (.string ⟨s.toArray⟩) none (some (.int k (hi : Int))) none Tryd.underlying9
    exact this.trans hsl
  simp only [execOp, he x _ hx, Option.map_some, Option.map_none, he y _ hy, Sem.run_bind, hat, Result.andThen_ok]
  rfl
theorem R.sliceHi {s : List UInt8} {k : IntKind} (hx : ev l x = some (sv s)) (hy : ev l y = some (.int k (if (255 : Int) < (s.length : Int) then 255 else (s.length : Int)))) : Runs Tryd.prog l (.slice 9 x none (some y) none) w (sv (s.take 255)) w := by
  obtain ⟨hi, hhi⟩ : ∃ hi : Nat, (if (255 : Int) < (s.length : Int) then 255 else (s.length : Int)) = (hi : Int) := by
    by_cases h : (255 : Int) < (s.length : Int)
    · exact ⟨255, by rw [if_pos h]; rfl⟩
    · exact ⟨s.length, by rw [if_neg h]⟩
  have hle : hi ≤ s.length ∧ s.take hi = s.take 255 := by
    by_cases h : (255 : Int) < (s.length : Int)
    · rw [if_pos h] at hhi
      have : hi = 255 := by omega
      subst this; exact ⟨by omega, rfl⟩
    · rw [if_neg h] at hhi
      have : hi = s.length := by omega
      subst this; exact ⟨Nat.le_refl _, by rw [List.take_of_length_le (Nat.le_refl _), List.take_of_length_le (by omega)]⟩
  rw [hhi] at hy
  rw [← hle.2]
  exact R.sliceHiN hx hy hle.1
end
theorem build57_02 (s : List UInt8) (ttl : Int) (w : World) : (Instr.build 57 #[(0, sv s), (2, .int .i64 ttl)]).run Tryd.prog w = .ok (Rec.val ⟨s, 0, ttl, zero16, [], []⟩) w := by unfold sv; kernel_rfl
theorem slice6 (c0 c1 c2 c3 : UInt8) (w : World) : (Instr.buildSlice 36 6 #[(0, u8v 255), (1, u8v 255), (2, u8v c0), (3, u8v c1), (4, u8v c2), (5, u8v c3)]).run Tryd.prog w = .ok (.slice (some ⟨w.heap.size, 0, none⟩) 6 6) (w.alloc (.cells #[u8v 255, u8v 255, u8v c0, u8v c1, u8v c2, u8v c3] 5)) := by kernel_rfl
theorem cells_one6 {w : World} {b : Nat} {c0 c1 c2 c3 : UInt8} (hb : w.heap[b]? = some (.cells #[u8v 255, u8v 255, u8v c0, u8v c1, u8v c2, u8v c3] 5 (0, 0))) : ∀ j u, (([255, 255, c0, c1, c2, c3] : List UInt8).map u8v)[j]? = some u → w.cell? ((⟨b, 0, none⟩ : Addr).add j) = some u := by
  intro j u hj
  rw [Addr.add_none, Nat.zero_add]
  refine cell_at hb ?_
  have : (#[u8v 255, u8v 255, u8v c0, u8v c1, u8v c2, u8v c3] : Array Value) = (([255, 255, c0, c1, c2, c3] : List UInt8).map u8v).toArray := rfl
  rw [this, List.getElem?_toArray]; exact hj
theorem four_of {a : List UInt8} (h : a.length = 16) : ∃ c0 c1 c2 c3, a.take 4 = [c0, c1, c2, c3] ∧ (a.map u8v)[0]? = some (u8v c0) ∧ (a.map u8v)[1]? = some (u8v c1) ∧ (a.map u8v)[2]? = some (u8v c2) ∧ (a.map u8v)[3]? = some (u8v c3) := by
  obtain ⟨a0, a1, a2, a3, a4, a5, a6, a7, a8, a9, b0, b1, b2, b3, b4, b5, rfl⟩ := list16 h
  exact ⟨a0, a1, a2, a3, rfl, rfl, rfl, rfl, rfl⟩
theorem rec_a {s : SeedV} (h : s.kind % 8 = 0 ∨ s.kind % 8 = 1) : recS s = ⟨nameN s.name, 1, s.ttl % 65536, mappedL ++ s.addr.take 4, [], []⟩ := if_pos h
theorem rec_b {s : SeedV} (h : s.kind % 8 = 2 ∨ s.kind % 8 = 3) : recS s = ⟨nameN s.name, 28, s.ttl % 65536, s.addr, [], []⟩ := by
  unfold recS kindS; rw [if_neg (by omega), if_pos h]
theorem rec_c {s : SeedV} (h : s.kind % 8 = 4) : recS s = ⟨nameN s.name, 5, s.ttl % 65536, zero16, nameN (s.name / 2 ^ (3 : Int).toNat), []⟩ := by
  unfold recS kindS; rw [if_neg (by omega), if_neg (by omega), if_pos h]
theorem rec_d {s : SeedV} (h : s.kind % 8 = 5) : recS s = ⟨nameN s.name, 12, s.ttl % 65536, zero16, nameN (s.name / 2 ^ (3 : Int).toNat), []⟩ := by
  unfold recS kindS; rw [if_neg (by omega), if_neg (by omega), if_neg (by omega), if_pos h]
theorem rec_e {s : SeedV} (h : s.kind % 8 = 6) : recS s = ⟨nameN s.name, 6, s.ttl % 65536, zero16, [], s.data.take 255⟩ := by
  unfold recS kindS; rw [if_neg (by omega), if_neg (by omega), if_neg (by omega), if_neg (by omega), if_pos h]
theorem rec_f {s : SeedV} (h : ¬ (s.kind % 8 = 0 ∨ s.kind % 8 = 1 ∨ s.kind % 8 = 2)) (h2 : ¬ (s.kind % 8 = 3 ∨ s.kind % 8 = 4 ∨ s.kind % 8 = 5 ∨ s.kind % 8 = 6)) : recS s = ⟨nameN s.name, 16, s.ttl % 65536, zero16, [], s.data.take 255⟩ := by
  unfold recS kindS; rw [if_neg (by omega), if_neg (by omega), if_neg (by omega), if_neg (by omega), if_neg (by omega)]
theorem record_any (s : SeedV) (w0 : World) (hO : s.Ok) : Calls Tryd.prog 48 #[.agg s.cells.toArray] w0 fun e w' => e = .returned (recS s).val ∧ Chg (fun _ => False) w0 w' := by
  have hs16 := hO.a
  have hz16 : zero16.length = 16 := rfl
  have hC := Chg.refl (fun _ => False) w0
  obtain ⟨c0, c1, c2, c3, e4, e0, e1, e2, e3⟩ := four_of hs16
  refine calls_cw (args := [.agg s.cells.toArray]) Tryd.func48 rfl rfl ?_
  show CW _ _ _ 78 [(0, .agg s.cells.toArray)] w0
  refine CW.rseq ?_
  refine WL.eff rfl (OP.box (by decide) rfl ?_)
  intro w1 hc_w1 hs_w1 hB1
  obtain ⟨b1, he_b1⟩ : ∃ b, b = w0.heap.size := ⟨_, rfl⟩
  rw [← he_b1] at hB1 ⊢
  have hB1 : BSd w1 b1 _ := hB1
  have hC := hC.trans hc_w1
  have hz_w1 := hc_w1.size
  refine WL.eff rfl (OP.allocR (by decide) ?_)
  intro w2 hc_w2 hs_w2 hB2
  obtain ⟨b2, he_b2⟩ : ∃ b, b = w1.heap.size := ⟨_, rfl⟩
  rw [← he_b2] at hB2 ⊢
  have hB1 := hc_w2.at hB1 (fun e => e)
  have hC := hC.trans hc_w2
  have hz_w2 := hc_w2.size
  refine WL.next ?_
  refine CW.seq ?_
  have hB1_d := hB1
  have hB2_d := hB2
  refine CW.draw (fun w => w.heap[b1]? = w2.heap[b1]? ∧ w.heap[b2]? = w2.heap[b2]?) (by kernel_rfl) ?_
  have hc_w3 : Chg (fun _ => False) w2 w2.drew := Chg.drew _ _
  obtain ⟨w3, he_w3⟩ : ∃ w, w = w2.drew := ⟨_, rfl⟩
  rw [← he_w3] at hc_w3 ⊢
  have hB1 := hc_w3.at hB1 (fun e => e)
  have hB2 := hc_w3.at hB2 (fun e => e)
  have hC := hC.trans hc_w3
  have hz_w3 := hc_w3.size
  refine AH.take 0 rfl (by kernel_rfl) (by kernel_rfl) (by kernel_rfl) (fun _ _ _ _ h => h) (⟨hB1.trans hB1_d.symm, hB2.trans hB2_d.symm⟩) (by decide) (fun w hS => FA50_0 rfl) ?_
  refine AH.take 1 rfl (by kernel_rfl) (by kernel_rfl) (by kernel_rfl) (fun _ _ _ _ h => h) (⟨hB1.trans hB1_d.symm, hB2.trans hB2_d.symm⟩) (by decide) (fun w hS => R.load Tryd.underlying3 rfl rfl (cell_at (hS.1.trans hB1_d) rfl)) ?_
  refine AH.take 3 rfl (by kernel_rfl) (by kernel_rfl) (by kernel_rfl) (fun _ _ _ _ h => h) (⟨hB1.trans hB1_d.symm, hB2.trans hB2_d.symm⟩) (by decide) (fun w hS => FA50_2 rfl) ?_
  refine AH.take 4 rfl (by kernel_rfl) (by kernel_rfl) (by kernel_rfl) (fun _ _ _ _ h => h) (⟨hB1.trans hB1_d.symm, hB2.trans hB2_d.symm⟩) (by decide) (fun w hS => R.load Tryd.underlying3 rfl rfl (cell_at (hS.1.trans hB1_d) rfl)) ?_
  refine AH.take 5 rfl (by kernel_rfl) (by kernel_rfl) (by kernel_rfl) (fun _ _ _ _ h => h) (⟨hB1.trans hB1_d.symm, hB2.trans hB2_d.symm⟩) (by decide) (fun w hS => R.mask 16 rfl rfl (by decide) rfl rfl) ?_
  refine AH.either 2 7 (by kernel_rfl) rfl rfl rfl rfl ?_ ?_
  · skip
    refine (OP.call (by decide) Tryd.func33 (by kernel_rfl) (by kernel_rfl) rfl (name_any _ _) ?_)
    rintro ed w4 ⟨rfl, hc_w4⟩
    refine ⟨_, rfl, ?_⟩
    have hB1 := hc_w4.at hB1 (fun e => e)
    have hB2 := hc_w4.at hB2 (fun e => e)
    have hC := hC.trans hc_w4
    have hz_w4 := hc_w4.size
    refine ⟨⟨hB1.trans hB1_d.symm, hB2.trans hB2_d.symm⟩, ?_⟩
    refine AH.take 6 rfl (by kernel_rfl) (by kernel_rfl) (by kernel_rfl) (fun _ _ _ _ h => h) (⟨hB1.trans hB1_d.symm, hB2.trans hB2_d.symm⟩) (by decide) (fun w hS => R.build (parts := [(0, _), (2, _)]) (vals := [(0, _), (2, _)]) rfl (fun w => build57_02 _ _ w)) ?_
    refine AH.eff 7 (by kernel_rfl) rfl rfl (OP.allocR (by decide) ?_)
    intro w5 hc_w5 hs_w5 hB3
    obtain ⟨b3, he_b3⟩ : ∃ b, b = w4.heap.size := ⟨_, rfl⟩
    rw [← he_b3] at hB3 ⊢
    have hB1 := hc_w5.at hB1 (fun e => e)
    have hB2 := hc_w5.at hB2 (fun e => e)
    have hC := hC.trans hc_w5
    have hz_w5 := hc_w5.size
    refine ⟨⟨hB1.trans hB1_d.symm, hB2.trans hB2_d.symm⟩, ?_⟩
    refine AH.eff 8 (by kernel_rfl) rfl rfl (OP.storeR rfl rfl (by first | assumption | rfl) (by first | assumption | rfl) hB3 ?_)
    intro w6 hc_w6 hs_w6 hB3
    have hB1 := hc_w6.at hB1 (fun e => by omega)
    have hB2 := hc_w6.at hB2 (fun e => by omega)
    have hC := hC.thenB hc_w6 (by omega)
    refine ⟨⟨hB1.trans hB1_d.symm, hB2.trans hB2_d.symm⟩, ?_⟩
    refine AH.done (by kernel_rfl) ?_
    refine EW.next ?_
    refine CW.seq ?_
    refine CW.rseq ?_
    refine WL.op (by decide) (FA50_1 rfl) ?_
    refine WL.op (by decide) (R.load Tryd.underlying3 rfl rfl (cell_at hB1 rfl)) ?_
    refine WL.op (by decide) (R.mask 3 rfl rfl (by decide) rfl rfl) ?_
    refine WL.next ?_
    refine CW.block ?_
    refine CW.seq ?_
    refine CW.rseq ?_
    refine WL.eqlS (by decide) rfl rfl (fun h1 => ?_) (fun h1 => ?_)
    · skip
      refine WL.op (by decide) (R.assign rfl) ?_
      refine WL.next ?_
      refine CW.condT rfl ?_
      refine CW.skip ?_
      refine EW.next ?_
      refine CW.condT rfl ?_
      refine CW.rseq ?_
      refine WL.op (by decide) (FA57_1 rfl) ?_
      refine WL.eff rfl (OP.storeRType rfl rfl hB3 ?_)
      intro w7 hc_w7 hs_w7 hB3
      have hB1 := hc_w7.at hB1 (fun e => by omega)
      have hB2 := hc_w7.at hB2 (fun e => by omega)
      have hC := hC.thenB hc_w7 (by omega)
      refine WL.next ?_
      have hB1_d := hB1
      have hB2_d := hB2
      refine CW.draw (fun w => w.heap[b1]? = w7.heap[b1]? ∧ w.heap[b2]? = w7.heap[b2]?) (by kernel_rfl) ?_
      have hc_w8 : Chg (fun _ => False) w7 w7.drew := Chg.drew _ _
      obtain ⟨w8, he_w8⟩ : ∃ w, w = w7.drew := ⟨_, rfl⟩
      rw [← he_w8] at hc_w8 ⊢
      have hB1 := hc_w8.at hB1 (fun e => e)
      have hB2 := hc_w8.at hB2 (fun e => e)
      have hB3 := hc_w8.at hB3 (fun e => e)
      have hC := hC.trans hc_w8
      have hz_w8 := hc_w8.size
      refine AH.take 0 rfl (by kernel_rfl) (by kernel_rfl) (by kernel_rfl) (fun _ _ _ _ h => h) (⟨hB1.trans hB1_d.symm, hB2.trans hB2_d.symm⟩) (by decide) (fun w hS => FA57_3 rfl) ?_
      refine AH.take 1 rfl (by kernel_rfl) (by kernel_rfl) (by kernel_rfl) (fun _ _ _ _ h => h) (⟨hB1.trans hB1_d.symm, hB2.trans hB2_d.symm⟩) (by decide) (fun w hS => R.sliceArr (lo := some _) (hi := none) (hv := none) (lv := some (.int .i64 10)) (l1 := 10) (h1 := 16) Tryd.underlying27 sz5 rfl rfl rfl (by kernel_rfl) (by decide)) ?_
      refine AH.take 2 rfl (by kernel_rfl) (by kernel_rfl) (by kernel_rfl) (fun _ _ _ _ h => h) (⟨hB1.trans hB1_d.symm, hB2.trans hB2_d.symm⟩) (by decide) (fun w hS => FA50_3 rfl) ?_
      refine AH.take 3 rfl (by kernel_rfl) (by kernel_rfl) (by kernel_rfl) (fun _ _ _ _ h => h) (⟨hB1.trans hB1_d.symm, hB2.trans hB2_d.symm⟩) (by decide) (fun w hS => R.indexArr (i := 0) Tryd.underlying27 sz5 rfl rfl rfl (by decide)) ?_
      refine AH.take 4 rfl (by kernel_rfl) (by kernel_rfl) (by kernel_rfl) (fun _ _ _ _ h => h) (⟨hB1.trans hB1_d.symm, hB2.trans hB2_d.symm⟩) (by decide) (fun w hS => R.load Tryd.underlying5 rfl rfl (cell_at (hS.1.trans hB1_d) (SeedV.atAddr e0))) ?_
      refine AH.take 5 rfl (by kernel_rfl) (by kernel_rfl) (by kernel_rfl) (fun _ _ _ _ h => h) (⟨hB1.trans hB1_d.symm, hB2.trans hB2_d.symm⟩) (by decide) (fun w hS => FA50_3 rfl) ?_
      refine AH.take 6 rfl (by kernel_rfl) (by kernel_rfl) (by kernel_rfl) (fun _ _ _ _ h => h) (⟨hB1.trans hB1_d.symm, hB2.trans hB2_d.symm⟩) (by decide) (fun w hS => R.indexArr (i := 1) Tryd.underlying27 sz5 rfl rfl rfl (by decide)) ?_
      refine AH.take 7 rfl (by kernel_rfl) (by kernel_rfl) (by kernel_rfl) (fun _ _ _ _ h => h) (⟨hB1.trans hB1_d.symm, hB2.trans hB2_d.symm⟩) (by decide) (fun w hS => R.load Tryd.underlying5 rfl rfl (cell_at (hS.1.trans hB1_d) (SeedV.atAddr e1))) ?_
      refine AH.take 8 rfl (by kernel_rfl) (by kernel_rfl) (by kernel_rfl) (fun _ _ _ _ h => h) (⟨hB1.trans hB1_d.symm, hB2.trans hB2_d.symm⟩) (by decide) (fun w hS => FA50_3 rfl) ?_
      refine AH.take 9 rfl (by kernel_rfl) (by kernel_rfl) (by kernel_rfl) (fun _ _ _ _ h => h) (⟨hB1.trans hB1_d.symm, hB2.trans hB2_d.symm⟩) (by decide) (fun w hS => R.indexArr (i := 2) Tryd.underlying27 sz5 rfl rfl rfl (by decide)) ?_
      refine AH.take 10 rfl (by kernel_rfl) (by kernel_rfl) (by kernel_rfl) (fun _ _ _ _ h => h) (⟨hB1.trans hB1_d.symm, hB2.trans hB2_d.symm⟩) (by decide) (fun w hS => R.load Tryd.underlying5 rfl rfl (cell_at (hS.1.trans hB1_d) (SeedV.atAddr e2))) ?_
      refine AH.take 11 rfl (by kernel_rfl) (by kernel_rfl) (by kernel_rfl) (fun _ _ _ _ h => h) (⟨hB1.trans hB1_d.symm, hB2.trans hB2_d.symm⟩) (by decide) (fun w hS => FA50_3 rfl) ?_
      refine AH.take 12 rfl (by kernel_rfl) (by kernel_rfl) (by kernel_rfl) (fun _ _ _ _ h => h) (⟨hB1.trans hB1_d.symm, hB2.trans hB2_d.symm⟩) (by decide) (fun w hS => R.indexArr (i := 3) Tryd.underlying27 sz5 rfl rfl rfl (by decide)) ?_
      refine AH.take 13 rfl (by kernel_rfl) (by kernel_rfl) (by kernel_rfl) (fun _ _ _ _ h => h) (⟨hB1.trans hB1_d.symm, hB2.trans hB2_d.symm⟩) (by decide) (fun w hS => R.load Tryd.underlying5 rfl rfl (cell_at (hS.1.trans hB1_d) (SeedV.atAddr e3))) ?_
      refine AH.eff 14 (by kernel_rfl) rfl rfl (OP.buildSlice (parts := [(0, _), (1, _), (2, _), (3, _), (4, _), (5, _)]) (vals := [(0, u8v 255), (1, u8v 255), (2, _), (3, _), (4, _), (5, _)]) (cells := #[u8v 255, u8v 255, u8v c0, u8v c1, u8v c2, u8v c3]) (ty := 5) (by decide) rfl (fun w => slice6 c0 c1 c2 c3 w) ?_)
      intro w9 hc_w9 hs_w9 hN
      have hB1 := hc_w9.at hB1 (fun e => e)
      have hB2 := hc_w9.at hB2 (fun e => e)
      have hB3 := hc_w9.at hB3 (fun e => e)
      have hC := hC.trans hc_w9
      have hz_w9 := hc_w9.size
      refine ⟨⟨hB1.trans hB1_d.symm, hB2.trans hB2_d.symm⟩, ?_⟩
      refine AH.eff 15 (by kernel_rfl) rfl rfl (OP.copy (cs := [255, 255, c0, c1, c2, c3]) (by decide) rfl rfl hB3 rfl (cells_one6 hN) (by rw [List.size_toArray, Rec.length (by rfl)]; exact Nat.le_of_ble_eq_true rfl) ?_)
      intro w10 hc_w10 hs_w10 hB3
      have hB1 := hc_w10.at hB1 (fun e => by omega)
      have hB2 := hc_w10.at hB2 (fun e => by omega)
      have hC := hC.thenB hc_w10 (by omega)
      have hB3 : w10.heap[b3]? = some (.cells (Rec.cells ⟨nameN s.name, 1, s.ttl % 65536, mappedL ++ [c0, c1, c2, c3], [], []⟩).toArray 57 (0, 0)) := hB3
      refine ⟨⟨hB1.trans hB1_d.symm, hB2.trans hB2_d.symm⟩, ?_⟩
      refine AH.done (by kernel_rfl) ?_
      refine EW.inNormal ?_
      refine EW.next ?_
      refine CW.rseq ?_
      refine WL.op (by decide) (R.loadRB (by first | assumption | rfl) rfl hB3) ?_
      refine WL.eff rfl (OP.storeR rfl rfl (by first | assumption | rfl) (by first | assumption | rfl) hB2 ?_)
      intro w11 hc_w11 hs_w11 hB2
      have hB1 := hc_w11.at hB1 (fun e => by omega)
      have hB3 := hc_w11.at hB3 (fun e => by omega)
      have hC := hC.thenB hc_w11 (by omega)
      refine WL.next ?_
      refine CW.ret ?_
      have hR := rec_a (s := s) (by omega)
      rw [show mappedL ++ s.addr.take 4 = mappedL ++ [c0, c1, c2, c3] by rw [e4]] at hR
      exact EW.retC (.inl rfl) rfl rfl (cs := (recS s).cells) Tryd.underlying57 rfl (by rw [Rec.length (recS_addr hs16)]; exact sz57) (fun j u hj => cell_at hB2 (by rw [hR] at hj; rw [List.getElem?_toArray]; exact hj)) ⟨rfl, hC⟩
    · skip
      refine WL.op (by decide) (R.assign rfl) ?_
      refine WL.next ?_
      refine CW.condF rfl ?_
      refine CW.region ?_
      refine WL.eqlS (by decide) rfl rfl (fun h2 => ?_) (fun h2 => ?_)
      · skip
        refine WL.op (by decide) (R.assign rfl) ?_
        refine WL.nil ?_
        refine EW.next ?_
        refine CW.condT rfl ?_
        refine CW.rseq ?_
        refine WL.op (by decide) (FA57_1 rfl) ?_
        refine WL.eff rfl (OP.storeRType rfl rfl hB3 ?_)
        intro w12 hc_w12 hs_w12 hB3
        have hB1 := hc_w12.at hB1 (fun e => by omega)
        have hB2 := hc_w12.at hB2 (fun e => by omega)
        have hC := hC.thenB hc_w12 (by omega)
        refine WL.next ?_
        have hB1_d := hB1
        have hB2_d := hB2
        refine CW.draw (fun w => w.heap[b1]? = w12.heap[b1]? ∧ w.heap[b2]? = w12.heap[b2]?) (by kernel_rfl) ?_
        have hc_w13 : Chg (fun _ => False) w12 w12.drew := Chg.drew _ _
        obtain ⟨w13, he_w13⟩ : ∃ w, w = w12.drew := ⟨_, rfl⟩
        rw [← he_w13] at hc_w13 ⊢
        have hB1 := hc_w13.at hB1 (fun e => e)
        have hB2 := hc_w13.at hB2 (fun e => e)
        have hB3 := hc_w13.at hB3 (fun e => e)
        have hC := hC.trans hc_w13
        have hz_w13 := hc_w13.size
        refine AH.take 0 rfl (by kernel_rfl) (by kernel_rfl) (by kernel_rfl) (fun _ _ _ _ h => h) (⟨hB1.trans hB1_d.symm, hB2.trans hB2_d.symm⟩) (by decide) (fun w hS => FA57_3 rfl) ?_
        refine AH.take 1 rfl (by kernel_rfl) (by kernel_rfl) (by kernel_rfl) (fun _ _ _ _ h => h) (⟨hB1.trans hB1_d.symm, hB2.trans hB2_d.symm⟩) (by decide) (fun w hS => R.sliceArr (lo := some _) (hi := none) (hv := none) (lv := some (.int .i64 10)) (l1 := 10) (h1 := 16) Tryd.underlying27 sz5 rfl rfl rfl (by kernel_rfl) (by decide)) ?_
        refine AH.take 2 rfl (by kernel_rfl) (by kernel_rfl) (by kernel_rfl) (fun _ _ _ _ h => h) (⟨hB1.trans hB1_d.symm, hB2.trans hB2_d.symm⟩) (by decide) (fun w hS => FA50_3 rfl) ?_
        refine AH.take 3 rfl (by kernel_rfl) (by kernel_rfl) (by kernel_rfl) (fun _ _ _ _ h => h) (⟨hB1.trans hB1_d.symm, hB2.trans hB2_d.symm⟩) (by decide) (fun w hS => R.indexArr (i := 0) Tryd.underlying27 sz5 rfl rfl rfl (by decide)) ?_
        refine AH.take 4 rfl (by kernel_rfl) (by kernel_rfl) (by kernel_rfl) (fun _ _ _ _ h => h) (⟨hB1.trans hB1_d.symm, hB2.trans hB2_d.symm⟩) (by decide) (fun w hS => R.load Tryd.underlying5 rfl rfl (cell_at (hS.1.trans hB1_d) (SeedV.atAddr e0))) ?_
        refine AH.take 5 rfl (by kernel_rfl) (by kernel_rfl) (by kernel_rfl) (fun _ _ _ _ h => h) (⟨hB1.trans hB1_d.symm, hB2.trans hB2_d.symm⟩) (by decide) (fun w hS => FA50_3 rfl) ?_
        refine AH.take 6 rfl (by kernel_rfl) (by kernel_rfl) (by kernel_rfl) (fun _ _ _ _ h => h) (⟨hB1.trans hB1_d.symm, hB2.trans hB2_d.symm⟩) (by decide) (fun w hS => R.indexArr (i := 1) Tryd.underlying27 sz5 rfl rfl rfl (by decide)) ?_
        refine AH.take 7 rfl (by kernel_rfl) (by kernel_rfl) (by kernel_rfl) (fun _ _ _ _ h => h) (⟨hB1.trans hB1_d.symm, hB2.trans hB2_d.symm⟩) (by decide) (fun w hS => R.load Tryd.underlying5 rfl rfl (cell_at (hS.1.trans hB1_d) (SeedV.atAddr e1))) ?_
        refine AH.take 8 rfl (by kernel_rfl) (by kernel_rfl) (by kernel_rfl) (fun _ _ _ _ h => h) (⟨hB1.trans hB1_d.symm, hB2.trans hB2_d.symm⟩) (by decide) (fun w hS => FA50_3 rfl) ?_
        refine AH.take 9 rfl (by kernel_rfl) (by kernel_rfl) (by kernel_rfl) (fun _ _ _ _ h => h) (⟨hB1.trans hB1_d.symm, hB2.trans hB2_d.symm⟩) (by decide) (fun w hS => R.indexArr (i := 2) Tryd.underlying27 sz5 rfl rfl rfl (by decide)) ?_
        refine AH.take 10 rfl (by kernel_rfl) (by kernel_rfl) (by kernel_rfl) (fun _ _ _ _ h => h) (⟨hB1.trans hB1_d.symm, hB2.trans hB2_d.symm⟩) (by decide) (fun w hS => R.load Tryd.underlying5 rfl rfl (cell_at (hS.1.trans hB1_d) (SeedV.atAddr e2))) ?_
        refine AH.take 11 rfl (by kernel_rfl) (by kernel_rfl) (by kernel_rfl) (fun _ _ _ _ h => h) (⟨hB1.trans hB1_d.symm, hB2.trans hB2_d.symm⟩) (by decide) (fun w hS => FA50_3 rfl) ?_
        refine AH.take 12 rfl (by kernel_rfl) (by kernel_rfl) (by kernel_rfl) (fun _ _ _ _ h => h) (⟨hB1.trans hB1_d.symm, hB2.trans hB2_d.symm⟩) (by decide) (fun w hS => R.indexArr (i := 3) Tryd.underlying27 sz5 rfl rfl rfl (by decide)) ?_
        refine AH.take 13 rfl (by kernel_rfl) (by kernel_rfl) (by kernel_rfl) (fun _ _ _ _ h => h) (⟨hB1.trans hB1_d.symm, hB2.trans hB2_d.symm⟩) (by decide) (fun w hS => R.load Tryd.underlying5 rfl rfl (cell_at (hS.1.trans hB1_d) (SeedV.atAddr e3))) ?_
        refine AH.eff 14 (by kernel_rfl) rfl rfl (OP.buildSlice (parts := [(0, _), (1, _), (2, _), (3, _), (4, _), (5, _)]) (vals := [(0, u8v 255), (1, u8v 255), (2, _), (3, _), (4, _), (5, _)]) (cells := #[u8v 255, u8v 255, u8v c0, u8v c1, u8v c2, u8v c3]) (ty := 5) (by decide) rfl (fun w => slice6 c0 c1 c2 c3 w) ?_)
        intro w14 hc_w14 hs_w14 hN
        have hB1 := hc_w14.at hB1 (fun e => e)
        have hB2 := hc_w14.at hB2 (fun e => e)
        have hB3 := hc_w14.at hB3 (fun e => e)
        have hC := hC.trans hc_w14
        have hz_w14 := hc_w14.size
        refine ⟨⟨hB1.trans hB1_d.symm, hB2.trans hB2_d.symm⟩, ?_⟩
        refine AH.eff 15 (by kernel_rfl) rfl rfl (OP.copy (cs := [255, 255, c0, c1, c2, c3]) (by decide) rfl rfl hB3 rfl (cells_one6 hN) (by rw [List.size_toArray, Rec.length (by rfl)]; exact Nat.le_of_ble_eq_true rfl) ?_)
        intro w15 hc_w15 hs_w15 hB3
        have hB1 := hc_w15.at hB1 (fun e => by omega)
        have hB2 := hc_w15.at hB2 (fun e => by omega)
        have hC := hC.thenB hc_w15 (by omega)
        have hB3 : w15.heap[b3]? = some (.cells (Rec.cells ⟨nameN s.name, 1, s.ttl % 65536, mappedL ++ [c0, c1, c2, c3], [], []⟩).toArray 57 (0, 0)) := hB3
        refine ⟨⟨hB1.trans hB1_d.symm, hB2.trans hB2_d.symm⟩, ?_⟩
        refine AH.done (by kernel_rfl) ?_
        refine EW.inNormal ?_
        refine EW.next ?_
        refine CW.rseq ?_
        refine WL.op (by decide) (R.loadRB (by first | assumption | rfl) rfl hB3) ?_
        refine WL.eff rfl (OP.storeR rfl rfl (by first | assumption | rfl) (by first | assumption | rfl) hB2 ?_)
        intro w16 hc_w16 hs_w16 hB2
        have hB1 := hc_w16.at hB1 (fun e => by omega)
        have hB3 := hc_w16.at hB3 (fun e => by omega)
        have hC := hC.thenB hc_w16 (by omega)
        refine WL.next ?_
        refine CW.ret ?_
        have hR := rec_a (s := s) (by omega)
        rw [show mappedL ++ s.addr.take 4 = mappedL ++ [c0, c1, c2, c3] by rw [e4]] at hR
        exact EW.retC (.inl rfl) rfl rfl (cs := (recS s).cells) Tryd.underlying57 rfl (by rw [Rec.length (recS_addr hs16)]; exact sz57) (fun j u hj => cell_at hB2 (by rw [hR] at hj; rw [List.getElem?_toArray]; exact hj)) ⟨rfl, hC⟩
      · skip
        refine WL.op (by decide) (R.assign rfl) ?_
        refine WL.nil ?_
        refine EW.next ?_
        refine CW.condF rfl ?_
        refine CW.seq ?_
        refine CW.rseq ?_
        refine WL.eqlS (by decide) rfl rfl (fun h3 => ?_) (fun h3 => ?_)
        · skip
          refine WL.op (by decide) (R.assign rfl) ?_
          refine WL.next ?_
          refine CW.condT rfl ?_
          refine CW.skip ?_
          refine EW.next ?_
          refine CW.condT rfl ?_
          have hB1_d := hB1
          have hB2_d := hB2
          refine CW.draw (fun w => w.heap[b1]? = w6.heap[b1]? ∧ w.heap[b2]? = w6.heap[b2]?) (by kernel_rfl) ?_
          have hc_w17 : Chg (fun _ => False) w6 w6.drew := Chg.drew _ _
          obtain ⟨w17, he_w17⟩ : ∃ w, w = w6.drew := ⟨_, rfl⟩
          rw [← he_w17] at hc_w17 ⊢
          have hB1 := hc_w17.at hB1 (fun e => e)
          have hB2 := hc_w17.at hB2 (fun e => e)
          have hB3 := hc_w17.at hB3 (fun e => e)
          have hC := hC.trans hc_w17
          have hz_w17 := hc_w17.size
          refine AH.take 0 rfl (by kernel_rfl) (by kernel_rfl) (by kernel_rfl) (fun _ _ _ _ h => h) (⟨hB1.trans hB1_d.symm, hB2.trans hB2_d.symm⟩) (by decide) (fun w hS => FA50_3 rfl) ?_
          refine AH.take 1 rfl (by kernel_rfl) (by kernel_rfl) (by kernel_rfl) (fun _ _ _ _ h => h) (⟨hB1.trans hB1_d.symm, hB2.trans hB2_d.symm⟩) (by decide) (fun w hS => R.loadSdA (by assumption) rfl (hS.1.trans hB1_d)) ?_
          refine AH.take 2 rfl (by kernel_rfl) (by kernel_rfl) (by kernel_rfl) (fun _ _ _ _ h => h) (⟨hB1.trans hB1_d.symm, hB2.trans hB2_d.symm⟩) (by decide) (fun w hS => FA57_1 rfl) ?_
          refine AH.eff 3 (by kernel_rfl) rfl rfl (OP.storeRType rfl rfl hB3 ?_)
          intro w18 hc_w18 hs_w18 hB3
          have hB1 := hc_w18.at hB1 (fun e => by omega)
          have hB2 := hc_w18.at hB2 (fun e => by omega)
          have hC := hC.thenB hc_w18 (by omega)
          refine ⟨⟨hB1.trans hB1_d.symm, hB2.trans hB2_d.symm⟩, ?_⟩
          refine AH.take 4 rfl (by kernel_rfl) (by kernel_rfl) (by kernel_rfl) (fun _ _ _ _ h => h) (⟨hB1.trans hB1_d.symm, hB2.trans hB2_d.symm⟩) (by decide) (fun w hS => FA57_3 rfl) ?_
          refine AH.eff 5 (by kernel_rfl) rfl rfl (OP.storeRAddr (by first | assumption | rfl) (by first | assumption | rfl) rfl rfl hB3 ?_)
          intro w19 hc_w19 hs_w19 hB3
          have hB1 := hc_w19.at hB1 (fun e => by omega)
          have hB2 := hc_w19.at hB2 (fun e => by omega)
          have hC := hC.thenB hc_w19 (by omega)
          refine ⟨⟨hB1.trans hB1_d.symm, hB2.trans hB2_d.symm⟩, ?_⟩
          refine AH.done (by kernel_rfl) ?_
          refine EW.inNormal ?_
          refine EW.next ?_
          refine CW.rseq ?_
          refine WL.op (by decide) (R.loadRB (by first | assumption | rfl) rfl hB3) ?_
          refine WL.eff rfl (OP.storeR rfl rfl (by first | assumption | rfl) (by first | assumption | rfl) hB2 ?_)
          intro w20 hc_w20 hs_w20 hB2
          have hB1 := hc_w20.at hB1 (fun e => by omega)
          have hB3 := hc_w20.at hB3 (fun e => by omega)
          have hC := hC.thenB hc_w20 (by omega)
          refine WL.next ?_
          refine CW.ret ?_
          have hR := rec_b (s := s) (by omega)
          exact EW.retC (.inl rfl) rfl rfl (cs := (recS s).cells) Tryd.underlying57 rfl (by rw [Rec.length (recS_addr hs16)]; exact sz57) (fun j u hj => cell_at hB2 (by rw [hR] at hj; rw [List.getElem?_toArray]; exact hj)) ⟨rfl, hC⟩
        · skip
          refine WL.op (by decide) (R.assign rfl) ?_
          refine WL.next ?_
          refine CW.condF rfl ?_
          refine CW.region ?_
          refine WL.eqlS (by decide) rfl rfl (fun h4 => ?_) (fun h4 => ?_)
          · skip
            refine WL.op (by decide) (R.assign rfl) ?_
            refine WL.nil ?_
            refine EW.next ?_
            refine CW.condT rfl ?_
            have hB1_d := hB1
            have hB2_d := hB2
            refine CW.draw (fun w => w.heap[b1]? = w6.heap[b1]? ∧ w.heap[b2]? = w6.heap[b2]?) (by kernel_rfl) ?_
            have hc_w21 : Chg (fun _ => False) w6 w6.drew := Chg.drew _ _
            obtain ⟨w21, he_w21⟩ : ∃ w, w = w6.drew := ⟨_, rfl⟩
            rw [← he_w21] at hc_w21 ⊢
            have hB1 := hc_w21.at hB1 (fun e => e)
            have hB2 := hc_w21.at hB2 (fun e => e)
            have hB3 := hc_w21.at hB3 (fun e => e)
            have hC := hC.trans hc_w21
            have hz_w21 := hc_w21.size
            refine AH.take 0 rfl (by kernel_rfl) (by kernel_rfl) (by kernel_rfl) (fun _ _ _ _ h => h) (⟨hB1.trans hB1_d.symm, hB2.trans hB2_d.symm⟩) (by decide) (fun w hS => FA50_3 rfl) ?_
            refine AH.take 1 rfl (by kernel_rfl) (by kernel_rfl) (by kernel_rfl) (fun _ _ _ _ h => h) (⟨hB1.trans hB1_d.symm, hB2.trans hB2_d.symm⟩) (by decide) (fun w hS => R.loadSdA (by assumption) rfl (hS.1.trans hB1_d)) ?_
            refine AH.take 2 rfl (by kernel_rfl) (by kernel_rfl) (by kernel_rfl) (fun _ _ _ _ h => h) (⟨hB1.trans hB1_d.symm, hB2.trans hB2_d.symm⟩) (by decide) (fun w hS => FA57_1 rfl) ?_
            refine AH.eff 3 (by kernel_rfl) rfl rfl (OP.storeRType rfl rfl hB3 ?_)
            intro w22 hc_w22 hs_w22 hB3
            have hB1 := hc_w22.at hB1 (fun e => by omega)
            have hB2 := hc_w22.at hB2 (fun e => by omega)
            have hC := hC.thenB hc_w22 (by omega)
            refine ⟨⟨hB1.trans hB1_d.symm, hB2.trans hB2_d.symm⟩, ?_⟩
            refine AH.take 4 rfl (by kernel_rfl) (by kernel_rfl) (by kernel_rfl) (fun _ _ _ _ h => h) (⟨hB1.trans hB1_d.symm, hB2.trans hB2_d.symm⟩) (by decide) (fun w hS => FA57_3 rfl) ?_
            refine AH.eff 5 (by kernel_rfl) rfl rfl (OP.storeRAddr (by first | assumption | rfl) (by first | assumption | rfl) rfl rfl hB3 ?_)
            intro w23 hc_w23 hs_w23 hB3
            have hB1 := hc_w23.at hB1 (fun e => by omega)
            have hB2 := hc_w23.at hB2 (fun e => by omega)
            have hC := hC.thenB hc_w23 (by omega)
            refine ⟨⟨hB1.trans hB1_d.symm, hB2.trans hB2_d.symm⟩, ?_⟩
            refine AH.done (by kernel_rfl) ?_
            refine EW.inNormal ?_
            refine EW.next ?_
            refine CW.rseq ?_
            refine WL.op (by decide) (R.loadRB (by first | assumption | rfl) rfl hB3) ?_
            refine WL.eff rfl (OP.storeR rfl rfl (by first | assumption | rfl) (by first | assumption | rfl) hB2 ?_)
            intro w24 hc_w24 hs_w24 hB2
            have hB1 := hc_w24.at hB1 (fun e => by omega)
            have hB3 := hc_w24.at hB3 (fun e => by omega)
            have hC := hC.thenB hc_w24 (by omega)
            refine WL.next ?_
            refine CW.ret ?_
            have hR := rec_b (s := s) (by omega)
            exact EW.retC (.inl rfl) rfl rfl (cs := (recS s).cells) Tryd.underlying57 rfl (by rw [Rec.length (recS_addr hs16)]; exact sz57) (fun j u hj => cell_at hB2 (by rw [hR] at hj; rw [List.getElem?_toArray]; exact hj)) ⟨rfl, hC⟩
          · skip
            refine WL.op (by decide) (R.assign rfl) ?_
            refine WL.nil ?_
            refine EW.next ?_
            refine CW.condF rfl ?_
            refine CW.rseq ?_
            refine WL.eqlS (by decide) rfl rfl (fun h5 => ?_) (fun h5 => ?_)
            · skip
              refine WL.op (by decide) (R.assign rfl) ?_
              refine WL.next ?_
              refine CW.condT rfl ?_
              refine CW.region ?_
              refine WL.op (by decide) (FA50_0 rfl) ?_
              refine WL.op (by decide) (R.load Tryd.underlying3 rfl rfl (cell_at hB1 rfl)) ?_
              refine WL.op (by decide) (R.shr rfl rfl (by omega)) ?_
              refine WL.eff rfl (OP.call (by decide) Tryd.func33 (by kernel_rfl) (by kernel_rfl) rfl (name_any _ _) ?_)
              rintro ed w25 ⟨rfl, hc_w25⟩
              refine ⟨_, rfl, ?_⟩
              have hB1 := hc_w25.at hB1 (fun e => e)
              have hB2 := hc_w25.at hB2 (fun e => e)
              have hB3 := hc_w25.at hB3 (fun e => e)
              have hC := hC.trans hc_w25
              have hz_w25 := hc_w25.size
              refine WL.op (by decide) (FA57_1 rfl) ?_
              refine WL.eff rfl (OP.storeRType rfl rfl hB3 ?_)
              intro w26 hc_w26 hs_w26 hB3
              have hB1 := hc_w26.at hB1 (fun e => by omega)
              have hB2 := hc_w26.at hB2 (fun e => by omega)
              have hC := hC.thenB hc_w26 (by omega)
              refine WL.op (by decide) (FA57_4 rfl) ?_
              refine WL.eff rfl (OP.storeRText (by first | assumption | rfl) rfl rfl hB3 ?_)
              intro w27 hc_w27 hs_w27 hB3
              have hB1 := hc_w27.at hB1 (fun e => by omega)
              have hB2 := hc_w27.at hB2 (fun e => by omega)
              have hC := hC.thenB hc_w27 (by omega)
              refine WL.nil ?_
              refine EW.inNormal ?_
              refine EW.next ?_
              refine CW.rseq ?_
              refine WL.op (by decide) (R.loadRB (by first | assumption | rfl) rfl hB3) ?_
              refine WL.eff rfl (OP.storeR rfl rfl (by first | assumption | rfl) (by first | assumption | rfl) hB2 ?_)
              intro w28 hc_w28 hs_w28 hB2
              have hB1 := hc_w28.at hB1 (fun e => by omega)
              have hB3 := hc_w28.at hB3 (fun e => by omega)
              have hC := hC.thenB hc_w28 (by omega)
              refine WL.next ?_
              refine CW.ret ?_
              have hR := rec_c (s := s) (by omega)
              exact EW.retC (.inl rfl) rfl rfl (cs := (recS s).cells) Tryd.underlying57 rfl (by rw [Rec.length (recS_addr hs16)]; exact sz57) (fun j u hj => cell_at hB2 (by rw [hR] at hj; rw [List.getElem?_toArray]; exact hj)) ⟨rfl, hC⟩
            · skip
              refine WL.op (by decide) (R.assign rfl) ?_
              refine WL.next ?_
              refine CW.condF rfl ?_
              refine CW.rseq ?_
              refine WL.eqlS (by decide) rfl rfl (fun h6 => ?_) (fun h6 => ?_)
              · skip
                refine WL.op (by decide) (R.assign rfl) ?_
                refine WL.next ?_
                refine CW.condT rfl ?_
                refine CW.region ?_
                refine WL.op (by decide) (FA50_0 rfl) ?_
                refine WL.op (by decide) (R.load Tryd.underlying3 rfl rfl (cell_at hB1 rfl)) ?_
                refine WL.op (by decide) (R.shr rfl rfl (by omega)) ?_
                refine WL.eff rfl (OP.call (by decide) Tryd.func33 (by kernel_rfl) (by kernel_rfl) rfl (name_any _ _) ?_)
                rintro ed w29 ⟨rfl, hc_w29⟩
                refine ⟨_, rfl, ?_⟩
                have hB1 := hc_w29.at hB1 (fun e => e)
                have hB2 := hc_w29.at hB2 (fun e => e)
                have hB3 := hc_w29.at hB3 (fun e => e)
                have hC := hC.trans hc_w29
                have hz_w29 := hc_w29.size
                refine WL.op (by decide) (FA57_1 rfl) ?_
                refine WL.eff rfl (OP.storeRType rfl rfl hB3 ?_)
                intro w30 hc_w30 hs_w30 hB3
                have hB1 := hc_w30.at hB1 (fun e => by omega)
                have hB2 := hc_w30.at hB2 (fun e => by omega)
                have hC := hC.thenB hc_w30 (by omega)
                refine WL.op (by decide) (FA57_4 rfl) ?_
                refine WL.eff rfl (OP.storeRText (by first | assumption | rfl) rfl rfl hB3 ?_)
                intro w31 hc_w31 hs_w31 hB3
                have hB1 := hc_w31.at hB1 (fun e => by omega)
                have hB2 := hc_w31.at hB2 (fun e => by omega)
                have hC := hC.thenB hc_w31 (by omega)
                refine WL.nil ?_
                refine EW.inNormal ?_
                refine EW.next ?_
                refine CW.rseq ?_
                refine WL.op (by decide) (R.loadRB (by first | assumption | rfl) rfl hB3) ?_
                refine WL.eff rfl (OP.storeR rfl rfl (by first | assumption | rfl) (by first | assumption | rfl) hB2 ?_)
                intro w32 hc_w32 hs_w32 hB2
                have hB1 := hc_w32.at hB1 (fun e => by omega)
                have hB3 := hc_w32.at hB3 (fun e => by omega)
                have hC := hC.thenB hc_w32 (by omega)
                refine WL.next ?_
                refine CW.ret ?_
                have hR := rec_d (s := s) (by omega)
                exact EW.retC (.inl rfl) rfl rfl (cs := (recS s).cells) Tryd.underlying57 rfl (by rw [Rec.length (recS_addr hs16)]; exact sz57) (fun j u hj => cell_at hB2 (by rw [hR] at hj; rw [List.getElem?_toArray]; exact hj)) ⟨rfl, hC⟩
              · skip
                refine WL.op (by decide) (R.assign rfl) ?_
                refine WL.next ?_
                refine CW.condF rfl ?_
                refine CW.rseq ?_
                refine WL.eqlS (by decide) rfl rfl (fun h7 => ?_) (fun h7 => ?_)
                · skip
                  refine WL.op (by decide) (R.assign rfl) ?_
                  refine WL.next ?_
                  refine CW.condT rfl ?_
                  have hB1_d := hB1
                  have hB2_d := hB2
                  refine CW.draw (fun w => w.heap[b1]? = w6.heap[b1]? ∧ w.heap[b2]? = w6.heap[b2]?) (by kernel_rfl) ?_
                  have hc_w33 : Chg (fun _ => False) w6 w6.drew := Chg.drew _ _
                  obtain ⟨w33, he_w33⟩ : ∃ w, w = w6.drew := ⟨_, rfl⟩
                  rw [← he_w33] at hc_w33 ⊢
                  have hB1 := hc_w33.at hB1 (fun e => e)
                  have hB2 := hc_w33.at hB2 (fun e => e)
                  have hB3 := hc_w33.at hB3 (fun e => e)
                  have hC := hC.trans hc_w33
                  have hz_w33 := hc_w33.size
                  refine AH.take 0 rfl (by kernel_rfl) (by kernel_rfl) (by kernel_rfl) (fun _ _ _ _ h => h) (⟨hB1.trans hB1_d.symm, hB2.trans hB2_d.symm⟩) (by decide) (fun w hS => FA50_4 rfl) ?_
                  refine AH.take 1 rfl (by kernel_rfl) (by kernel_rfl) (by kernel_rfl) (fun _ _ _ _ h => h) (⟨hB1.trans hB1_d.symm, hB2.trans hB2_d.symm⟩) (by decide) (fun w hS => R.load Tryd.underlying9 rfl rfl (cell_at (hS.1.trans hB1_d) (SeedV.at19 (by assumption)))) ?_
                  refine AH.take 2 rfl (by kernel_rfl) (by kernel_rfl) (by kernel_rfl) (fun _ _ _ _ h => h) (⟨hB1.trans hB1_d.symm, hB2.trans hB2_d.symm⟩) (by decide) (fun w hS => FA50_4 rfl) ?_
                  refine AH.take 3 rfl (by kernel_rfl) (by kernel_rfl) (by kernel_rfl) (fun _ _ _ _ h => h) (⟨hB1.trans hB1_d.symm, hB2.trans hB2_d.symm⟩) (by decide) (fun w hS => R.load Tryd.underlying9 rfl rfl (cell_at (hS.1.trans hB1_d) (SeedV.at19 (by assumption)))) ?_
                  refine AH.take 4 rfl (by kernel_rfl) (by kernel_rfl) (by kernel_rfl) (fun _ _ _ _ h => h) (⟨hB1.trans hB1_d.symm, hB2.trans hB2_d.symm⟩) (by decide) (fun w hS => R.lenS rfl rfl) ?_
                  refine AH.take 5 rfl (by kernel_rfl) (by kernel_rfl) (by kernel_rfl) (fun _ _ _ _ h => h) (⟨hB1.trans hB1_d.symm, hB2.trans hB2_d.symm⟩) (by decide) (fun w hS => R.minC rfl rfl) ?_
                  refine AH.take 6 rfl (by kernel_rfl) (by kernel_rfl) (by kernel_rfl) (fun _ _ _ _ h => h) (⟨hB1.trans hB1_d.symm, hB2.trans hB2_d.symm⟩) (by decide) (fun w hS => R.sliceHi rfl rfl) ?_
                  refine AH.take 7 rfl (by kernel_rfl) (by kernel_rfl) (by kernel_rfl) (fun _ _ _ _ h => h) (⟨hB1.trans hB1_d.symm, hB2.trans hB2_d.symm⟩) (by decide) (fun w hS => FA57_1 rfl) ?_
                  refine AH.eff 8 (by kernel_rfl) rfl rfl (OP.storeRType rfl rfl hB3 ?_)
                  intro w34 hc_w34 hs_w34 hB3
                  have hB1 := hc_w34.at hB1 (fun e => by omega)
                  have hB2 := hc_w34.at hB2 (fun e => by omega)
                  have hC := hC.thenB hc_w34 (by omega)
                  refine ⟨⟨hB1.trans hB1_d.symm, hB2.trans hB2_d.symm⟩, ?_⟩
                  refine AH.take 9 rfl (by kernel_rfl) (by kernel_rfl) (by kernel_rfl) (fun _ _ _ _ h => h) (⟨hB1.trans hB1_d.symm, hB2.trans hB2_d.symm⟩) (by decide) (fun w hS => FA57_5 rfl) ?_
                  refine AH.eff 10 (by kernel_rfl) rfl rfl (OP.storeRData (by first | assumption | rfl) rfl rfl hB3 ?_)
                  intro w35 hc_w35 hs_w35 hB3
                  have hB1 := hc_w35.at hB1 (fun e => by omega)
                  have hB2 := hc_w35.at hB2 (fun e => by omega)
                  have hC := hC.thenB hc_w35 (by omega)
                  refine ⟨⟨hB1.trans hB1_d.symm, hB2.trans hB2_d.symm⟩, ?_⟩
                  refine AH.done (by kernel_rfl) ?_
                  refine EW.inNormal ?_
                  refine EW.next ?_
                  refine CW.rseq ?_
                  refine WL.op (by decide) (R.loadRB (by first | assumption | rfl) rfl hB3) ?_
                  refine WL.eff rfl (OP.storeR rfl rfl (by first | assumption | rfl) (by first | assumption | rfl) hB2 ?_)
                  intro w36 hc_w36 hs_w36 hB2
                  have hB1 := hc_w36.at hB1 (fun e => by omega)
                  have hB3 := hc_w36.at hB3 (fun e => by omega)
                  have hC := hC.thenB hc_w36 (by omega)
                  refine WL.next ?_
                  refine CW.ret ?_
                  have hR := rec_e (s := s) (by omega)
                  exact EW.retC (.inl rfl) rfl rfl (cs := (recS s).cells) Tryd.underlying57 rfl (by rw [Rec.length (recS_addr hs16)]; exact sz57) (fun j u hj => cell_at hB2 (by rw [hR] at hj; rw [List.getElem?_toArray]; exact hj)) ⟨rfl, hC⟩
                · skip
                  refine WL.op (by decide) (R.assign rfl) ?_
                  refine WL.next ?_
                  refine CW.condF rfl ?_
                  have hB1_d := hB1
                  have hB2_d := hB2
                  refine CW.draw (fun w => w.heap[b1]? = w6.heap[b1]? ∧ w.heap[b2]? = w6.heap[b2]?) (by kernel_rfl) ?_
                  have hc_w37 : Chg (fun _ => False) w6 w6.drew := Chg.drew _ _
                  obtain ⟨w37, he_w37⟩ : ∃ w, w = w6.drew := ⟨_, rfl⟩
                  rw [← he_w37] at hc_w37 ⊢
                  have hB1 := hc_w37.at hB1 (fun e => e)
                  have hB2 := hc_w37.at hB2 (fun e => e)
                  have hB3 := hc_w37.at hB3 (fun e => e)
                  have hC := hC.trans hc_w37
                  have hz_w37 := hc_w37.size
                  refine AH.take 0 rfl (by kernel_rfl) (by kernel_rfl) (by kernel_rfl) (fun _ _ _ _ h => h) (⟨hB1.trans hB1_d.symm, hB2.trans hB2_d.symm⟩) (by decide) (fun w hS => FA50_4 rfl) ?_
                  refine AH.take 1 rfl (by kernel_rfl) (by kernel_rfl) (by kernel_rfl) (fun _ _ _ _ h => h) (⟨hB1.trans hB1_d.symm, hB2.trans hB2_d.symm⟩) (by decide) (fun w hS => R.load Tryd.underlying9 rfl rfl (cell_at (hS.1.trans hB1_d) (SeedV.at19 (by assumption)))) ?_
                  refine AH.take 2 rfl (by kernel_rfl) (by kernel_rfl) (by kernel_rfl) (fun _ _ _ _ h => h) (⟨hB1.trans hB1_d.symm, hB2.trans hB2_d.symm⟩) (by decide) (fun w hS => FA50_4 rfl) ?_
                  refine AH.take 3 rfl (by kernel_rfl) (by kernel_rfl) (by kernel_rfl) (fun _ _ _ _ h => h) (⟨hB1.trans hB1_d.symm, hB2.trans hB2_d.symm⟩) (by decide) (fun w hS => R.load Tryd.underlying9 rfl rfl (cell_at (hS.1.trans hB1_d) (SeedV.at19 (by assumption)))) ?_
                  refine AH.take 4 rfl (by kernel_rfl) (by kernel_rfl) (by kernel_rfl) (fun _ _ _ _ h => h) (⟨hB1.trans hB1_d.symm, hB2.trans hB2_d.symm⟩) (by decide) (fun w hS => R.lenS rfl rfl) ?_
                  refine AH.take 5 rfl (by kernel_rfl) (by kernel_rfl) (by kernel_rfl) (fun _ _ _ _ h => h) (⟨hB1.trans hB1_d.symm, hB2.trans hB2_d.symm⟩) (by decide) (fun w hS => R.minC rfl rfl) ?_
                  refine AH.take 6 rfl (by kernel_rfl) (by kernel_rfl) (by kernel_rfl) (fun _ _ _ _ h => h) (⟨hB1.trans hB1_d.symm, hB2.trans hB2_d.symm⟩) (by decide) (fun w hS => R.sliceHi rfl rfl) ?_
                  refine AH.take 7 rfl (by kernel_rfl) (by kernel_rfl) (by kernel_rfl) (fun _ _ _ _ h => h) (⟨hB1.trans hB1_d.symm, hB2.trans hB2_d.symm⟩) (by decide) (fun w hS => FA57_1 rfl) ?_
                  refine AH.eff 8 (by kernel_rfl) rfl rfl (OP.storeRType rfl rfl hB3 ?_)
                  intro w38 hc_w38 hs_w38 hB3
                  have hB1 := hc_w38.at hB1 (fun e => by omega)
                  have hB2 := hc_w38.at hB2 (fun e => by omega)
                  have hC := hC.thenB hc_w38 (by omega)
                  refine ⟨⟨hB1.trans hB1_d.symm, hB2.trans hB2_d.symm⟩, ?_⟩
                  refine AH.take 9 rfl (by kernel_rfl) (by kernel_rfl) (by kernel_rfl) (fun _ _ _ _ h => h) (⟨hB1.trans hB1_d.symm, hB2.trans hB2_d.symm⟩) (by decide) (fun w hS => FA57_5 rfl) ?_
                  refine AH.eff 10 (by kernel_rfl) rfl rfl (OP.storeRData (by first | assumption | rfl) rfl rfl hB3 ?_)
                  intro w39 hc_w39 hs_w39 hB3
                  have hB1 := hc_w39.at hB1 (fun e => by omega)
                  have hB2 := hc_w39.at hB2 (fun e => by omega)
                  have hC := hC.thenB hc_w39 (by omega)
                  refine ⟨⟨hB1.trans hB1_d.symm, hB2.trans hB2_d.symm⟩, ?_⟩
                  refine AH.done (by kernel_rfl) ?_
                  refine EW.inNormal ?_
                  refine EW.next ?_
                  refine CW.rseq ?_
                  refine WL.op (by decide) (R.loadRB (by first | assumption | rfl) rfl hB3) ?_
                  refine WL.eff rfl (OP.storeR rfl rfl (by first | assumption | rfl) (by first | assumption | rfl) hB2 ?_)
                  intro w40 hc_w40 hs_w40 hB2
                  have hB1 := hc_w40.at hB1 (fun e => by omega)
                  have hB3 := hc_w40.at hB3 (fun e => by omega)
                  have hC := hC.thenB hc_w40 (by omega)
                  refine WL.next ?_
                  refine CW.ret ?_
                  have hR := rec_f (s := s) (by omega) (by omega)
                  exact EW.retC (.inl rfl) rfl rfl (cs := (recS s).cells) Tryd.underlying57 rfl (by rw [Rec.length (recS_addr hs16)]; exact sz57) (fun j u hj => cell_at hB2 (by rw [hR] at hj; rw [List.getElem?_toArray]; exact hj)) ⟨rfl, hC⟩
  · skip
    refine (OP.allocR (by decide) ?_)
    intro w41 hc_w41 hs_w41 hB3
    obtain ⟨b3, he_b3⟩ : ∃ b, b = w3.heap.size := ⟨_, rfl⟩
    rw [← he_b3] at hB3 ⊢
    have hB1 := hc_w41.at hB1 (fun e => e)
    have hB2 := hc_w41.at hB2 (fun e => e)
    have hC := hC.trans hc_w41
    have hz_w41 := hc_w41.size
    refine ⟨⟨hB1.trans hB1_d.symm, hB2.trans hB2_d.symm⟩, ?_⟩
    refine AH.eff 2 (by kernel_rfl) rfl rfl (OP.call (by decide) Tryd.func33 (by kernel_rfl) (by kernel_rfl) rfl (name_any _ _) ?_)
    rintro ed w42 ⟨rfl, hc_w42⟩
    refine ⟨_, rfl, ?_⟩
    have hB1 := hc_w42.at hB1 (fun e => e)
    have hB2 := hc_w42.at hB2 (fun e => e)
    have hB3 := hc_w42.at hB3 (fun e => e)
    have hC := hC.trans hc_w42
    have hz_w42 := hc_w42.size
    refine ⟨⟨hB1.trans hB1_d.symm, hB2.trans hB2_d.symm⟩, ?_⟩
    refine AH.take 6 rfl (by kernel_rfl) (by kernel_rfl) (by kernel_rfl) (fun _ _ _ _ h => h) (⟨hB1.trans hB1_d.symm, hB2.trans hB2_d.symm⟩) (by decide) (fun w hS => R.build (parts := [(0, _), (2, _)]) (vals := [(0, _), (2, _)]) rfl (fun w => build57_02 _ _ w)) ?_
    refine AH.eff 8 (by kernel_rfl) rfl rfl (OP.storeR rfl rfl (by first | assumption | rfl) (by first | assumption | rfl) hB3 ?_)
    intro w43 hc_w43 hs_w43 hB3
    have hB1 := hc_w43.at hB1 (fun e => by omega)
    have hB2 := hc_w43.at hB2 (fun e => by omega)
    have hC := hC.thenB hc_w43 (by omega)
    refine ⟨⟨hB1.trans hB1_d.symm, hB2.trans hB2_d.symm⟩, ?_⟩
    refine AH.done (by kernel_rfl) ?_
    refine EW.next ?_
    refine CW.seq ?_
    refine CW.rseq ?_
    refine WL.op (by decide) (FA50_1 rfl) ?_
    refine WL.op (by decide) (R.load Tryd.underlying3 rfl rfl (cell_at hB1 rfl)) ?_
    refine WL.op (by decide) (R.mask 3 rfl rfl (by decide) rfl rfl) ?_
    refine WL.next ?_
    refine CW.block ?_
    refine CW.seq ?_
    refine CW.rseq ?_
    refine WL.eqlS (by decide) rfl rfl (fun h8 => ?_) (fun h8 => ?_)
    · skip
      refine WL.op (by decide) (R.assign rfl) ?_
      refine WL.next ?_
      refine CW.condT rfl ?_
      refine CW.skip ?_
      refine EW.next ?_
      refine CW.condT rfl ?_
      refine CW.rseq ?_
      refine WL.op (by decide) (FA57_1 rfl) ?_
      refine WL.eff rfl (OP.storeRType rfl rfl hB3 ?_)
      intro w44 hc_w44 hs_w44 hB3
      have hB1 := hc_w44.at hB1 (fun e => by omega)
      have hB2 := hc_w44.at hB2 (fun e => by omega)
      have hC := hC.thenB hc_w44 (by omega)
      refine WL.next ?_
      have hB1_d := hB1
      have hB2_d := hB2
      refine CW.draw (fun w => w.heap[b1]? = w44.heap[b1]? ∧ w.heap[b2]? = w44.heap[b2]?) (by kernel_rfl) ?_
      have hc_w45 : Chg (fun _ => False) w44 w44.drew := Chg.drew _ _
      obtain ⟨w45, he_w45⟩ : ∃ w, w = w44.drew := ⟨_, rfl⟩
      rw [← he_w45] at hc_w45 ⊢
      have hB1 := hc_w45.at hB1 (fun e => e)
      have hB2 := hc_w45.at hB2 (fun e => e)
      have hB3 := hc_w45.at hB3 (fun e => e)
      have hC := hC.trans hc_w45
      have hz_w45 := hc_w45.size
      refine AH.take 0 rfl (by kernel_rfl) (by kernel_rfl) (by kernel_rfl) (fun _ _ _ _ h => h) (⟨hB1.trans hB1_d.symm, hB2.trans hB2_d.symm⟩) (by decide) (fun w hS => FA57_3 rfl) ?_
      refine AH.take 1 rfl (by kernel_rfl) (by kernel_rfl) (by kernel_rfl) (fun _ _ _ _ h => h) (⟨hB1.trans hB1_d.symm, hB2.trans hB2_d.symm⟩) (by decide) (fun w hS => R.sliceArr (lo := some _) (hi := none) (hv := none) (lv := some (.int .i64 10)) (l1 := 10) (h1 := 16) Tryd.underlying27 sz5 rfl rfl rfl (by kernel_rfl) (by decide)) ?_
      refine AH.take 2 rfl (by kernel_rfl) (by kernel_rfl) (by kernel_rfl) (fun _ _ _ _ h => h) (⟨hB1.trans hB1_d.symm, hB2.trans hB2_d.symm⟩) (by decide) (fun w hS => FA50_3 rfl) ?_
      refine AH.take 3 rfl (by kernel_rfl) (by kernel_rfl) (by kernel_rfl) (fun _ _ _ _ h => h) (⟨hB1.trans hB1_d.symm, hB2.trans hB2_d.symm⟩) (by decide) (fun w hS => R.indexArr (i := 0) Tryd.underlying27 sz5 rfl rfl rfl (by decide)) ?_
      refine AH.take 4 rfl (by kernel_rfl) (by kernel_rfl) (by kernel_rfl) (fun _ _ _ _ h => h) (⟨hB1.trans hB1_d.symm, hB2.trans hB2_d.symm⟩) (by decide) (fun w hS => R.load Tryd.underlying5 rfl rfl (cell_at (hS.1.trans hB1_d) (SeedV.atAddr e0))) ?_
      refine AH.take 5 rfl (by kernel_rfl) (by kernel_rfl) (by kernel_rfl) (fun _ _ _ _ h => h) (⟨hB1.trans hB1_d.symm, hB2.trans hB2_d.symm⟩) (by decide) (fun w hS => FA50_3 rfl) ?_
      refine AH.take 6 rfl (by kernel_rfl) (by kernel_rfl) (by kernel_rfl) (fun _ _ _ _ h => h) (⟨hB1.trans hB1_d.symm, hB2.trans hB2_d.symm⟩) (by decide) (fun w hS => R.indexArr (i := 1) Tryd.underlying27 sz5 rfl rfl rfl (by decide)) ?_
      refine AH.take 7 rfl (by kernel_rfl) (by kernel_rfl) (by kernel_rfl) (fun _ _ _ _ h => h) (⟨hB1.trans hB1_d.symm, hB2.trans hB2_d.symm⟩) (by decide) (fun w hS => R.load Tryd.underlying5 rfl rfl (cell_at (hS.1.trans hB1_d) (SeedV.atAddr e1))) ?_
      refine AH.take 8 rfl (by kernel_rfl) (by kernel_rfl) (by kernel_rfl) (fun _ _ _ _ h => h) (⟨hB1.trans hB1_d.symm, hB2.trans hB2_d.symm⟩) (by decide) (fun w hS => FA50_3 rfl) ?_
      refine AH.take 9 rfl (by kernel_rfl) (by kernel_rfl) (by kernel_rfl) (fun _ _ _ _ h => h) (⟨hB1.trans hB1_d.symm, hB2.trans hB2_d.symm⟩) (by decide) (fun w hS => R.indexArr (i := 2) Tryd.underlying27 sz5 rfl rfl rfl (by decide)) ?_
      refine AH.take 10 rfl (by kernel_rfl) (by kernel_rfl) (by kernel_rfl) (fun _ _ _ _ h => h) (⟨hB1.trans hB1_d.symm, hB2.trans hB2_d.symm⟩) (by decide) (fun w hS => R.load Tryd.underlying5 rfl rfl (cell_at (hS.1.trans hB1_d) (SeedV.atAddr e2))) ?_
      refine AH.take 11 rfl (by kernel_rfl) (by kernel_rfl) (by kernel_rfl) (fun _ _ _ _ h => h) (⟨hB1.trans hB1_d.symm, hB2.trans hB2_d.symm⟩) (by decide) (fun w hS => FA50_3 rfl) ?_
      refine AH.take 12 rfl (by kernel_rfl) (by kernel_rfl) (by kernel_rfl) (fun _ _ _ _ h => h) (⟨hB1.trans hB1_d.symm, hB2.trans hB2_d.symm⟩) (by decide) (fun w hS => R.indexArr (i := 3) Tryd.underlying27 sz5 rfl rfl rfl (by decide)) ?_
      refine AH.take 13 rfl (by kernel_rfl) (by kernel_rfl) (by kernel_rfl) (fun _ _ _ _ h => h) (⟨hB1.trans hB1_d.symm, hB2.trans hB2_d.symm⟩) (by decide) (fun w hS => R.load Tryd.underlying5 rfl rfl (cell_at (hS.1.trans hB1_d) (SeedV.atAddr e3))) ?_
      refine AH.eff 14 (by kernel_rfl) rfl rfl (OP.buildSlice (parts := [(0, _), (1, _), (2, _), (3, _), (4, _), (5, _)]) (vals := [(0, u8v 255), (1, u8v 255), (2, _), (3, _), (4, _), (5, _)]) (cells := #[u8v 255, u8v 255, u8v c0, u8v c1, u8v c2, u8v c3]) (ty := 5) (by decide) rfl (fun w => slice6 c0 c1 c2 c3 w) ?_)
      intro w46 hc_w46 hs_w46 hN
      have hB1 := hc_w46.at hB1 (fun e => e)
      have hB2 := hc_w46.at hB2 (fun e => e)
      have hB3 := hc_w46.at hB3 (fun e => e)
      have hC := hC.trans hc_w46
      have hz_w46 := hc_w46.size
      refine ⟨⟨hB1.trans hB1_d.symm, hB2.trans hB2_d.symm⟩, ?_⟩
      refine AH.eff 15 (by kernel_rfl) rfl rfl (OP.copy (cs := [255, 255, c0, c1, c2, c3]) (by decide) rfl rfl hB3 rfl (cells_one6 hN) (by rw [List.size_toArray, Rec.length (by rfl)]; exact Nat.le_of_ble_eq_true rfl) ?_)
      intro w47 hc_w47 hs_w47 hB3
      have hB1 := hc_w47.at hB1 (fun e => by omega)
      have hB2 := hc_w47.at hB2 (fun e => by omega)
      have hC := hC.thenB hc_w47 (by omega)
      have hB3 : w47.heap[b3]? = some (.cells (Rec.cells ⟨nameN s.name, 1, s.ttl % 65536, mappedL ++ [c0, c1, c2, c3], [], []⟩).toArray 57 (0, 0)) := hB3
      refine ⟨⟨hB1.trans hB1_d.symm, hB2.trans hB2_d.symm⟩, ?_⟩
      refine AH.done (by kernel_rfl) ?_
      refine EW.inNormal ?_
      refine EW.next ?_
      refine CW.rseq ?_
      refine WL.op (by decide) (R.loadRB (by first | assumption | rfl) rfl hB3) ?_
      refine WL.eff rfl (OP.storeR rfl rfl (by first | assumption | rfl) (by first | assumption | rfl) hB2 ?_)
      intro w48 hc_w48 hs_w48 hB2
      have hB1 := hc_w48.at hB1 (fun e => by omega)
      have hB3 := hc_w48.at hB3 (fun e => by omega)
      have hC := hC.thenB hc_w48 (by omega)
      refine WL.next ?_
      refine CW.ret ?_
      have hR := rec_a (s := s) (by omega)
      rw [show mappedL ++ s.addr.take 4 = mappedL ++ [c0, c1, c2, c3] by rw [e4]] at hR
      exact EW.retC (.inl rfl) rfl rfl (cs := (recS s).cells) Tryd.underlying57 rfl (by rw [Rec.length (recS_addr hs16)]; exact sz57) (fun j u hj => cell_at hB2 (by rw [hR] at hj; rw [List.getElem?_toArray]; exact hj)) ⟨rfl, hC⟩
    · skip
      refine WL.op (by decide) (R.assign rfl) ?_
      refine WL.next ?_
      refine CW.condF rfl ?_
      refine CW.region ?_
      refine WL.eqlS (by decide) rfl rfl (fun h9 => ?_) (fun h9 => ?_)
      · skip
        refine WL.op (by decide) (R.assign rfl) ?_
        refine WL.nil ?_
        refine EW.next ?_
        refine CW.condT rfl ?_
        refine CW.rseq ?_
        refine WL.op (by decide) (FA57_1 rfl) ?_
        refine WL.eff rfl (OP.storeRType rfl rfl hB3 ?_)
        intro w49 hc_w49 hs_w49 hB3
        have hB1 := hc_w49.at hB1 (fun e => by omega)
        have hB2 := hc_w49.at hB2 (fun e => by omega)
        have hC := hC.thenB hc_w49 (by omega)
        refine WL.next ?_
        have hB1_d := hB1
        have hB2_d := hB2
        refine CW.draw (fun w => w.heap[b1]? = w49.heap[b1]? ∧ w.heap[b2]? = w49.heap[b2]?) (by kernel_rfl) ?_
        have hc_w50 : Chg (fun _ => False) w49 w49.drew := Chg.drew _ _
        obtain ⟨w50, he_w50⟩ : ∃ w, w = w49.drew := ⟨_, rfl⟩
        rw [← he_w50] at hc_w50 ⊢
        have hB1 := hc_w50.at hB1 (fun e => e)
        have hB2 := hc_w50.at hB2 (fun e => e)
        have hB3 := hc_w50.at hB3 (fun e => e)
        have hC := hC.trans hc_w50
        have hz_w50 := hc_w50.size
        refine AH.take 0 rfl (by kernel_rfl) (by kernel_rfl) (by kernel_rfl) (fun _ _ _ _ h => h) (⟨hB1.trans hB1_d.symm, hB2.trans hB2_d.symm⟩) (by decide) (fun w hS => FA57_3 rfl) ?_
        refine AH.take 1 rfl (by kernel_rfl) (by kernel_rfl) (by kernel_rfl) (fun _ _ _ _ h => h) (⟨hB1.trans hB1_d.symm, hB2.trans hB2_d.symm⟩) (by decide) (fun w hS => R.sliceArr (lo := some _) (hi := none) (hv := none) (lv := some (.int .i64 10)) (l1 := 10) (h1 := 16) Tryd.underlying27 sz5 rfl rfl rfl (by kernel_rfl) (by decide)) ?_
        refine AH.take 2 rfl (by kernel_rfl) (by kernel_rfl) (by kernel_rfl) (fun _ _ _ _ h => h) (⟨hB1.trans hB1_d.symm, hB2.trans hB2_d.symm⟩) (by decide) (fun w hS => FA50_3 rfl) ?_
        refine AH.take 3 rfl (by kernel_rfl) (by kernel_rfl) (by kernel_rfl) (fun _ _ _ _ h => h) (⟨hB1.trans hB1_d.symm, hB2.trans hB2_d.symm⟩) (by decide) (fun w hS => R.indexArr (i := 0) Tryd.underlying27 sz5 rfl rfl rfl (by decide)) ?_
        refine AH.take 4 rfl (by kernel_rfl) (by kernel_rfl) (by kernel_rfl) (fun _ _ _ _ h => h) (⟨hB1.trans hB1_d.symm, hB2.trans hB2_d.symm⟩) (by decide) (fun w hS => R.load Tryd.underlying5 rfl rfl (cell_at (hS.1.trans hB1_d) (SeedV.atAddr e0))) ?_
        refine AH.take 5 rfl (by kernel_rfl) (by kernel_rfl) (by kernel_rfl) (fun _ _ _ _ h => h) (⟨hB1.trans hB1_d.symm, hB2.trans hB2_d.symm⟩) (by decide) (fun w hS => FA50_3 rfl) ?_
        refine AH.take 6 rfl (by kernel_rfl) (by kernel_rfl) (by kernel_rfl) (fun _ _ _ _ h => h) (⟨hB1.trans hB1_d.symm, hB2.trans hB2_d.symm⟩) (by decide) (fun w hS => R.indexArr (i := 1) Tryd.underlying27 sz5 rfl rfl rfl (by decide)) ?_
        refine AH.take 7 rfl (by kernel_rfl) (by kernel_rfl) (by kernel_rfl) (fun _ _ _ _ h => h) (⟨hB1.trans hB1_d.symm, hB2.trans hB2_d.symm⟩) (by decide) (fun w hS => R.load Tryd.underlying5 rfl rfl (cell_at (hS.1.trans hB1_d) (SeedV.atAddr e1))) ?_
        refine AH.take 8 rfl (by kernel_rfl) (by kernel_rfl) (by kernel_rfl) (fun _ _ _ _ h => h) (⟨hB1.trans hB1_d.symm, hB2.trans hB2_d.symm⟩) (by decide) (fun w hS => FA50_3 rfl) ?_
        refine AH.take 9 rfl (by kernel_rfl) (by kernel_rfl) (by kernel_rfl) (fun _ _ _ _ h => h) (⟨hB1.trans hB1_d.symm, hB2.trans hB2_d.symm⟩) (by decide) (fun w hS => R.indexArr (i := 2) Tryd.underlying27 sz5 rfl rfl rfl (by decide)) ?_
        refine AH.take 10 rfl (by kernel_rfl) (by kernel_rfl) (by kernel_rfl) (fun _ _ _ _ h => h) (⟨hB1.trans hB1_d.symm, hB2.trans hB2_d.symm⟩) (by decide) (fun w hS => R.load Tryd.underlying5 rfl rfl (cell_at (hS.1.trans hB1_d) (SeedV.atAddr e2))) ?_
        refine AH.take 11 rfl (by kernel_rfl) (by kernel_rfl) (by kernel_rfl) (fun _ _ _ _ h => h) (⟨hB1.trans hB1_d.symm, hB2.trans hB2_d.symm⟩) (by decide) (fun w hS => FA50_3 rfl) ?_
        refine AH.take 12 rfl (by kernel_rfl) (by kernel_rfl) (by kernel_rfl) (fun _ _ _ _ h => h) (⟨hB1.trans hB1_d.symm, hB2.trans hB2_d.symm⟩) (by decide) (fun w hS => R.indexArr (i := 3) Tryd.underlying27 sz5 rfl rfl rfl (by decide)) ?_
        refine AH.take 13 rfl (by kernel_rfl) (by kernel_rfl) (by kernel_rfl) (fun _ _ _ _ h => h) (⟨hB1.trans hB1_d.symm, hB2.trans hB2_d.symm⟩) (by decide) (fun w hS => R.load Tryd.underlying5 rfl rfl (cell_at (hS.1.trans hB1_d) (SeedV.atAddr e3))) ?_
        refine AH.eff 14 (by kernel_rfl) rfl rfl (OP.buildSlice (parts := [(0, _), (1, _), (2, _), (3, _), (4, _), (5, _)]) (vals := [(0, u8v 255), (1, u8v 255), (2, _), (3, _), (4, _), (5, _)]) (cells := #[u8v 255, u8v 255, u8v c0, u8v c1, u8v c2, u8v c3]) (ty := 5) (by decide) rfl (fun w => slice6 c0 c1 c2 c3 w) ?_)
        intro w51 hc_w51 hs_w51 hN
        have hB1 := hc_w51.at hB1 (fun e => e)
        have hB2 := hc_w51.at hB2 (fun e => e)
        have hB3 := hc_w51.at hB3 (fun e => e)
        have hC := hC.trans hc_w51
        have hz_w51 := hc_w51.size
        refine ⟨⟨hB1.trans hB1_d.symm, hB2.trans hB2_d.symm⟩, ?_⟩
        refine AH.eff 15 (by kernel_rfl) rfl rfl (OP.copy (cs := [255, 255, c0, c1, c2, c3]) (by decide) rfl rfl hB3 rfl (cells_one6 hN) (by rw [List.size_toArray, Rec.length (by rfl)]; exact Nat.le_of_ble_eq_true rfl) ?_)
        intro w52 hc_w52 hs_w52 hB3
        have hB1 := hc_w52.at hB1 (fun e => by omega)
        have hB2 := hc_w52.at hB2 (fun e => by omega)
        have hC := hC.thenB hc_w52 (by omega)
        have hB3 : w52.heap[b3]? = some (.cells (Rec.cells ⟨nameN s.name, 1, s.ttl % 65536, mappedL ++ [c0, c1, c2, c3], [], []⟩).toArray 57 (0, 0)) := hB3
        refine ⟨⟨hB1.trans hB1_d.symm, hB2.trans hB2_d.symm⟩, ?_⟩
        refine AH.done (by kernel_rfl) ?_
        refine EW.inNormal ?_
        refine EW.next ?_
        refine CW.rseq ?_
        refine WL.op (by decide) (R.loadRB (by first | assumption | rfl) rfl hB3) ?_
        refine WL.eff rfl (OP.storeR rfl rfl (by first | assumption | rfl) (by first | assumption | rfl) hB2 ?_)
        intro w53 hc_w53 hs_w53 hB2
        have hB1 := hc_w53.at hB1 (fun e => by omega)
        have hB3 := hc_w53.at hB3 (fun e => by omega)
        have hC := hC.thenB hc_w53 (by omega)
        refine WL.next ?_
        refine CW.ret ?_
        have hR := rec_a (s := s) (by omega)
        rw [show mappedL ++ s.addr.take 4 = mappedL ++ [c0, c1, c2, c3] by rw [e4]] at hR
        exact EW.retC (.inl rfl) rfl rfl (cs := (recS s).cells) Tryd.underlying57 rfl (by rw [Rec.length (recS_addr hs16)]; exact sz57) (fun j u hj => cell_at hB2 (by rw [hR] at hj; rw [List.getElem?_toArray]; exact hj)) ⟨rfl, hC⟩
      · skip
        refine WL.op (by decide) (R.assign rfl) ?_
        refine WL.nil ?_
        refine EW.next ?_
        refine CW.condF rfl ?_
        refine CW.seq ?_
        refine CW.rseq ?_
        refine WL.eqlS (by decide) rfl rfl (fun h10 => ?_) (fun h10 => ?_)
        · skip
          refine WL.op (by decide) (R.assign rfl) ?_
          refine WL.next ?_
          refine CW.condT rfl ?_
          refine CW.skip ?_
          refine EW.next ?_
          refine CW.condT rfl ?_
          have hB1_d := hB1
          have hB2_d := hB2
          refine CW.draw (fun w => w.heap[b1]? = w43.heap[b1]? ∧ w.heap[b2]? = w43.heap[b2]?) (by kernel_rfl) ?_
          have hc_w54 : Chg (fun _ => False) w43 w43.drew := Chg.drew _ _
          obtain ⟨w54, he_w54⟩ : ∃ w, w = w43.drew := ⟨_, rfl⟩
          rw [← he_w54] at hc_w54 ⊢
          have hB1 := hc_w54.at hB1 (fun e => e)
          have hB2 := hc_w54.at hB2 (fun e => e)
          have hB3 := hc_w54.at hB3 (fun e => e)
          have hC := hC.trans hc_w54
          have hz_w54 := hc_w54.size
          refine AH.take 0 rfl (by kernel_rfl) (by kernel_rfl) (by kernel_rfl) (fun _ _ _ _ h => h) (⟨hB1.trans hB1_d.symm, hB2.trans hB2_d.symm⟩) (by decide) (fun w hS => FA50_3 rfl) ?_
          refine AH.take 1 rfl (by kernel_rfl) (by kernel_rfl) (by kernel_rfl) (fun _ _ _ _ h => h) (⟨hB1.trans hB1_d.symm, hB2.trans hB2_d.symm⟩) (by decide) (fun w hS => R.loadSdA (by assumption) rfl (hS.1.trans hB1_d)) ?_
          refine AH.take 2 rfl (by kernel_rfl) (by kernel_rfl) (by kernel_rfl) (fun _ _ _ _ h => h) (⟨hB1.trans hB1_d.symm, hB2.trans hB2_d.symm⟩) (by decide) (fun w hS => FA57_1 rfl) ?_
          refine AH.eff 3 (by kernel_rfl) rfl rfl (OP.storeRType rfl rfl hB3 ?_)
          intro w55 hc_w55 hs_w55 hB3
          have hB1 := hc_w55.at hB1 (fun e => by omega)
          have hB2 := hc_w55.at hB2 (fun e => by omega)
          have hC := hC.thenB hc_w55 (by omega)
          refine ⟨⟨hB1.trans hB1_d.symm, hB2.trans hB2_d.symm⟩, ?_⟩
          refine AH.take 4 rfl (by kernel_rfl) (by kernel_rfl) (by kernel_rfl) (fun _ _ _ _ h => h) (⟨hB1.trans hB1_d.symm, hB2.trans hB2_d.symm⟩) (by decide) (fun w hS => FA57_3 rfl) ?_
          refine AH.eff 5 (by kernel_rfl) rfl rfl (OP.storeRAddr (by first | assumption | rfl) (by first | assumption | rfl) rfl rfl hB3 ?_)
          intro w56 hc_w56 hs_w56 hB3
          have hB1 := hc_w56.at hB1 (fun e => by omega)
          have hB2 := hc_w56.at hB2 (fun e => by omega)
          have hC := hC.thenB hc_w56 (by omega)
          refine ⟨⟨hB1.trans hB1_d.symm, hB2.trans hB2_d.symm⟩, ?_⟩
          refine AH.done (by kernel_rfl) ?_
          refine EW.inNormal ?_
          refine EW.next ?_
          refine CW.rseq ?_
          refine WL.op (by decide) (R.loadRB (by first | assumption | rfl) rfl hB3) ?_
          refine WL.eff rfl (OP.storeR rfl rfl (by first | assumption | rfl) (by first | assumption | rfl) hB2 ?_)
          intro w57 hc_w57 hs_w57 hB2
          have hB1 := hc_w57.at hB1 (fun e => by omega)
          have hB3 := hc_w57.at hB3 (fun e => by omega)
          have hC := hC.thenB hc_w57 (by omega)
          refine WL.next ?_
          refine CW.ret ?_
          have hR := rec_b (s := s) (by omega)
          exact EW.retC (.inl rfl) rfl rfl (cs := (recS s).cells) Tryd.underlying57 rfl (by rw [Rec.length (recS_addr hs16)]; exact sz57) (fun j u hj => cell_at hB2 (by rw [hR] at hj; rw [List.getElem?_toArray]; exact hj)) ⟨rfl, hC⟩
        · skip
          refine WL.op (by decide) (R.assign rfl) ?_
          refine WL.next ?_
          refine CW.condF rfl ?_
          refine CW.region ?_
          refine WL.eqlS (by decide) rfl rfl (fun h11 => ?_) (fun h11 => ?_)
          · skip
            refine WL.op (by decide) (R.assign rfl) ?_
            refine WL.nil ?_
            refine EW.next ?_
            refine CW.condT rfl ?_
            have hB1_d := hB1
            have hB2_d := hB2
            refine CW.draw (fun w => w.heap[b1]? = w43.heap[b1]? ∧ w.heap[b2]? = w43.heap[b2]?) (by kernel_rfl) ?_
            have hc_w58 : Chg (fun _ => False) w43 w43.drew := Chg.drew _ _
            obtain ⟨w58, he_w58⟩ : ∃ w, w = w43.drew := ⟨_, rfl⟩
            rw [← he_w58] at hc_w58 ⊢
            have hB1 := hc_w58.at hB1 (fun e => e)
            have hB2 := hc_w58.at hB2 (fun e => e)
            have hB3 := hc_w58.at hB3 (fun e => e)
            have hC := hC.trans hc_w58
            have hz_w58 := hc_w58.size
            refine AH.take 0 rfl (by kernel_rfl) (by kernel_rfl) (by kernel_rfl) (fun _ _ _ _ h => h) (⟨hB1.trans hB1_d.symm, hB2.trans hB2_d.symm⟩) (by decide) (fun w hS => FA50_3 rfl) ?_
            refine AH.take 1 rfl (by kernel_rfl) (by kernel_rfl) (by kernel_rfl) (fun _ _ _ _ h => h) (⟨hB1.trans hB1_d.symm, hB2.trans hB2_d.symm⟩) (by decide) (fun w hS => R.loadSdA (by assumption) rfl (hS.1.trans hB1_d)) ?_
            refine AH.take 2 rfl (by kernel_rfl) (by kernel_rfl) (by kernel_rfl) (fun _ _ _ _ h => h) (⟨hB1.trans hB1_d.symm, hB2.trans hB2_d.symm⟩) (by decide) (fun w hS => FA57_1 rfl) ?_
            refine AH.eff 3 (by kernel_rfl) rfl rfl (OP.storeRType rfl rfl hB3 ?_)
            intro w59 hc_w59 hs_w59 hB3
            have hB1 := hc_w59.at hB1 (fun e => by omega)
            have hB2 := hc_w59.at hB2 (fun e => by omega)
            have hC := hC.thenB hc_w59 (by omega)
            refine ⟨⟨hB1.trans hB1_d.symm, hB2.trans hB2_d.symm⟩, ?_⟩
            refine AH.take 4 rfl (by kernel_rfl) (by kernel_rfl) (by kernel_rfl) (fun _ _ _ _ h => h) (⟨hB1.trans hB1_d.symm, hB2.trans hB2_d.symm⟩) (by decide) (fun w hS => FA57_3 rfl) ?_
            refine AH.eff 5 (by kernel_rfl) rfl rfl (OP.storeRAddr (by first | assumption | rfl) (by first | assumption | rfl) rfl rfl hB3 ?_)
            intro w60 hc_w60 hs_w60 hB3
            have hB1 := hc_w60.at hB1 (fun e => by omega)
            have hB2 := hc_w60.at hB2 (fun e => by omega)
            have hC := hC.thenB hc_w60 (by omega)
            refine ⟨⟨hB1.trans hB1_d.symm, hB2.trans hB2_d.symm⟩, ?_⟩
            refine AH.done (by kernel_rfl) ?_
            refine EW.inNormal ?_
            refine EW.next ?_
            refine CW.rseq ?_
            refine WL.op (by decide) (R.loadRB (by first | assumption | rfl) rfl hB3) ?_
            refine WL.eff rfl (OP.storeR rfl rfl (by first | assumption | rfl) (by first | assumption | rfl) hB2 ?_)
            intro w61 hc_w61 hs_w61 hB2
            have hB1 := hc_w61.at hB1 (fun e => by omega)
            have hB3 := hc_w61.at hB3 (fun e => by omega)
            have hC := hC.thenB hc_w61 (by omega)
            refine WL.next ?_
            refine CW.ret ?_
            have hR := rec_b (s := s) (by omega)
            exact EW.retC (.inl rfl) rfl rfl (cs := (recS s).cells) Tryd.underlying57 rfl (by rw [Rec.length (recS_addr hs16)]; exact sz57) (fun j u hj => cell_at hB2 (by rw [hR] at hj; rw [List.getElem?_toArray]; exact hj)) ⟨rfl, hC⟩
          · skip
            refine WL.op (by decide) (R.assign rfl) ?_
            refine WL.nil ?_
            refine EW.next ?_
            refine CW.condF rfl ?_
            refine CW.rseq ?_
            refine WL.eqlS (by decide) rfl rfl (fun h12 => ?_) (fun h12 => ?_)
            · skip
              refine WL.op (by decide) (R.assign rfl) ?_
              refine WL.next ?_
              refine CW.condT rfl ?_
              refine CW.region ?_
              refine WL.op (by decide) (FA50_0 rfl) ?_
              refine WL.op (by decide) (R.load Tryd.underlying3 rfl rfl (cell_at hB1 rfl)) ?_
              refine WL.op (by decide) (R.shr rfl rfl (by omega)) ?_
              refine WL.eff rfl (OP.call (by decide) Tryd.func33 (by kernel_rfl) (by kernel_rfl) rfl (name_any _ _) ?_)
              rintro ed w62 ⟨rfl, hc_w62⟩
              refine ⟨_, rfl, ?_⟩
              have hB1 := hc_w62.at hB1 (fun e => e)
              have hB2 := hc_w62.at hB2 (fun e => e)
              have hB3 := hc_w62.at hB3 (fun e => e)
              have hC := hC.trans hc_w62
              have hz_w62 := hc_w62.size
              refine WL.op (by decide) (FA57_1 rfl) ?_
              refine WL.eff rfl (OP.storeRType rfl rfl hB3 ?_)
              intro w63 hc_w63 hs_w63 hB3
              have hB1 := hc_w63.at hB1 (fun e => by omega)
              have hB2 := hc_w63.at hB2 (fun e => by omega)
              have hC := hC.thenB hc_w63 (by omega)
              refine WL.op (by decide) (FA57_4 rfl) ?_
              refine WL.eff rfl (OP.storeRText (by first | assumption | rfl) rfl rfl hB3 ?_)
              intro w64 hc_w64 hs_w64 hB3
              have hB1 := hc_w64.at hB1 (fun e => by omega)
              have hB2 := hc_w64.at hB2 (fun e => by omega)
              have hC := hC.thenB hc_w64 (by omega)
              refine WL.nil ?_
              refine EW.inNormal ?_
              refine EW.next ?_
              refine CW.rseq ?_
              refine WL.op (by decide) (R.loadRB (by first | assumption | rfl) rfl hB3) ?_
              refine WL.eff rfl (OP.storeR rfl rfl (by first | assumption | rfl) (by first | assumption | rfl) hB2 ?_)
              intro w65 hc_w65 hs_w65 hB2
              have hB1 := hc_w65.at hB1 (fun e => by omega)
              have hB3 := hc_w65.at hB3 (fun e => by omega)
              have hC := hC.thenB hc_w65 (by omega)
              refine WL.next ?_
              refine CW.ret ?_
              have hR := rec_c (s := s) (by omega)
              exact EW.retC (.inl rfl) rfl rfl (cs := (recS s).cells) Tryd.underlying57 rfl (by rw [Rec.length (recS_addr hs16)]; exact sz57) (fun j u hj => cell_at hB2 (by rw [hR] at hj; rw [List.getElem?_toArray]; exact hj)) ⟨rfl, hC⟩
            · skip
              refine WL.op (by decide) (R.assign rfl) ?_
              refine WL.next ?_
              refine CW.condF rfl ?_
              refine CW.rseq ?_
              refine WL.eqlS (by decide) rfl rfl (fun h13 => ?_) (fun h13 => ?_)
              · skip
                refine WL.op (by decide) (R.assign rfl) ?_
                refine WL.next ?_
                refine CW.condT rfl ?_
                refine CW.region ?_
                refine WL.op (by decide) (FA50_0 rfl) ?_
                refine WL.op (by decide) (R.load Tryd.underlying3 rfl rfl (cell_at hB1 rfl)) ?_
                refine WL.op (by decide) (R.shr rfl rfl (by omega)) ?_
                refine WL.eff rfl (OP.call (by decide) Tryd.func33 (by kernel_rfl) (by kernel_rfl) rfl (name_any _ _) ?_)
                rintro ed w66 ⟨rfl, hc_w66⟩
                refine ⟨_, rfl, ?_⟩
                have hB1 := hc_w66.at hB1 (fun e => e)
                have hB2 := hc_w66.at hB2 (fun e => e)
                have hB3 := hc_w66.at hB3 (fun e => e)
                have hC := hC.trans hc_w66
                have hz_w66 := hc_w66.size
                refine WL.op (by decide) (FA57_1 rfl) ?_
                refine WL.eff rfl (OP.storeRType rfl rfl hB3 ?_)
                intro w67 hc_w67 hs_w67 hB3
                have hB1 := hc_w67.at hB1 (fun e => by omega)
                have hB2 := hc_w67.at hB2 (fun e => by omega)
                have hC := hC.thenB hc_w67 (by omega)
                refine WL.op (by decide) (FA57_4 rfl) ?_
                refine WL.eff rfl (OP.storeRText (by first | assumption | rfl) rfl rfl hB3 ?_)
                intro w68 hc_w68 hs_w68 hB3
                have hB1 := hc_w68.at hB1 (fun e => by omega)
                have hB2 := hc_w68.at hB2 (fun e => by omega)
                have hC := hC.thenB hc_w68 (by omega)
                refine WL.nil ?_
                refine EW.inNormal ?_
                refine EW.next ?_
                refine CW.rseq ?_
                refine WL.op (by decide) (R.loadRB (by first | assumption | rfl) rfl hB3) ?_
                refine WL.eff rfl (OP.storeR rfl rfl (by first | assumption | rfl) (by first | assumption | rfl) hB2 ?_)
                intro w69 hc_w69 hs_w69 hB2
                have hB1 := hc_w69.at hB1 (fun e => by omega)
                have hB3 := hc_w69.at hB3 (fun e => by omega)
                have hC := hC.thenB hc_w69 (by omega)
                refine WL.next ?_
                refine CW.ret ?_
                have hR := rec_d (s := s) (by omega)
                exact EW.retC (.inl rfl) rfl rfl (cs := (recS s).cells) Tryd.underlying57 rfl (by rw [Rec.length (recS_addr hs16)]; exact sz57) (fun j u hj => cell_at hB2 (by rw [hR] at hj; rw [List.getElem?_toArray]; exact hj)) ⟨rfl, hC⟩
              · skip
                refine WL.op (by decide) (R.assign rfl) ?_
                refine WL.next ?_
                refine CW.condF rfl ?_
                refine CW.rseq ?_
                refine WL.eqlS (by decide) rfl rfl (fun h14 => ?_) (fun h14 => ?_)
                · skip
                  refine WL.op (by decide) (R.assign rfl) ?_
                  refine WL.next ?_
                  refine CW.condT rfl ?_
                  have hB1_d := hB1
                  have hB2_d := hB2
                  refine CW.draw (fun w => w.heap[b1]? = w43.heap[b1]? ∧ w.heap[b2]? = w43.heap[b2]?) (by kernel_rfl) ?_
                  have hc_w70 : Chg (fun _ => False) w43 w43.drew := Chg.drew _ _
                  obtain ⟨w70, he_w70⟩ : ∃ w, w = w43.drew := ⟨_, rfl⟩
                  rw [← he_w70] at hc_w70 ⊢
                  have hB1 := hc_w70.at hB1 (fun e => e)
                  have hB2 := hc_w70.at hB2 (fun e => e)
                  have hB3 := hc_w70.at hB3 (fun e => e)
                  have hC := hC.trans hc_w70
                  have hz_w70 := hc_w70.size
                  refine AH.take 0 rfl (by kernel_rfl) (by kernel_rfl) (by kernel_rfl) (fun _ _ _ _ h => h) (⟨hB1.trans hB1_d.symm, hB2.trans hB2_d.symm⟩) (by decide) (fun w hS => FA50_4 rfl) ?_
                  refine AH.take 1 rfl (by kernel_rfl) (by kernel_rfl) (by kernel_rfl) (fun _ _ _ _ h => h) (⟨hB1.trans hB1_d.symm, hB2.trans hB2_d.symm⟩) (by decide) (fun w hS => R.load Tryd.underlying9 rfl rfl (cell_at (hS.1.trans hB1_d) (SeedV.at19 (by assumption)))) ?_
                  refine AH.take 2 rfl (by kernel_rfl) (by kernel_rfl) (by kernel_rfl) (fun _ _ _ _ h => h) (⟨hB1.trans hB1_d.symm, hB2.trans hB2_d.symm⟩) (by decide) (fun w hS => FA50_4 rfl) ?_
                  refine AH.take 3 rfl (by kernel_rfl) (by kernel_rfl) (by kernel_rfl) (fun _ _ _ _ h => h) (⟨hB1.trans hB1_d.symm, hB2.trans hB2_d.symm⟩) (by decide) (fun w hS => R.load Tryd.underlying9 rfl rfl (cell_at (hS.1.trans hB1_d) (SeedV.at19 (by assumption)))) ?_
                  refine AH.take 4 rfl (by kernel_rfl) (by kernel_rfl) (by kernel_rfl) (fun _ _ _ _ h => h) (⟨hB1.trans hB1_d.symm, hB2.trans hB2_d.symm⟩) (by decide) (fun w hS => R.lenS rfl rfl) ?_
                  refine AH.take 5 rfl (by kernel_rfl) (by kernel_rfl) (by kernel_rfl) (fun _ _ _ _ h => h) (⟨hB1.trans hB1_d.symm, hB2.trans hB2_d.symm⟩) (by decide) (fun w hS => R.minC rfl rfl) ?_
                  refine AH.take 6 rfl (by kernel_rfl) (by kernel_rfl) (by kernel_rfl) (fun _ _ _ _ h => h) (⟨hB1.trans hB1_d.symm, hB2.trans hB2_d.symm⟩) (by decide) (fun w hS => R.sliceHi rfl rfl) ?_
                  refine AH.take 7 rfl (by kernel_rfl) (by kernel_rfl) (by kernel_rfl) (fun _ _ _ _ h => h) (⟨hB1.trans hB1_d.symm, hB2.trans hB2_d.symm⟩) (by decide) (fun w hS => FA57_1 rfl) ?_
                  refine AH.eff 8 (by kernel_rfl) rfl rfl (OP.storeRType rfl rfl hB3 ?_)
                  intro w71 hc_w71 hs_w71 hB3
                  have hB1 := hc_w71.at hB1 (fun e => by omega)
                  have hB2 := hc_w71.at hB2 (fun e => by omega)
                  have hC := hC.thenB hc_w71 (by omega)
                  refine ⟨⟨hB1.trans hB1_d.symm, hB2.trans hB2_d.symm⟩, ?_⟩
                  refine AH.take 9 rfl (by kernel_rfl) (by kernel_rfl) (by kernel_rfl) (fun _ _ _ _ h => h) (⟨hB1.trans hB1_d.symm, hB2.trans hB2_d.symm⟩) (by decide) (fun w hS => FA57_5 rfl) ?_
                  refine AH.eff 10 (by kernel_rfl) rfl rfl (OP.storeRData (by first | assumption | rfl) rfl rfl hB3 ?_)
                  intro w72 hc_w72 hs_w72 hB3
                  have hB1 := hc_w72.at hB1 (fun e => by omega)
                  have hB2 := hc_w72.at hB2 (fun e => by omega)
                  have hC := hC.thenB hc_w72 (by omega)
                  refine ⟨⟨hB1.trans hB1_d.symm, hB2.trans hB2_d.symm⟩, ?_⟩
                  refine AH.done (by kernel_rfl) ?_
                  refine EW.inNormal ?_
                  refine EW.next ?_
                  refine CW.rseq ?_
                  refine WL.op (by decide) (R.loadRB (by first | assumption | rfl) rfl hB3) ?_
                  refine WL.eff rfl (OP.storeR rfl rfl (by first | assumption | rfl) (by first | assumption | rfl) hB2 ?_)
                  intro w73 hc_w73 hs_w73 hB2
                  have hB1 := hc_w73.at hB1 (fun e => by omega)
                  have hB3 := hc_w73.at hB3 (fun e => by omega)
                  have hC := hC.thenB hc_w73 (by omega)
                  refine WL.next ?_
                  refine CW.ret ?_
                  have hR := rec_e (s := s) (by omega)
                  exact EW.retC (.inl rfl) rfl rfl (cs := (recS s).cells) Tryd.underlying57 rfl (by rw [Rec.length (recS_addr hs16)]; exact sz57) (fun j u hj => cell_at hB2 (by rw [hR] at hj; rw [List.getElem?_toArray]; exact hj)) ⟨rfl, hC⟩
                · skip
                  refine WL.op (by decide) (R.assign rfl) ?_
                  refine WL.next ?_
                  refine CW.condF rfl ?_
                  have hB1_d := hB1
                  have hB2_d := hB2
                  refine CW.draw (fun w => w.heap[b1]? = w43.heap[b1]? ∧ w.heap[b2]? = w43.heap[b2]?) (by kernel_rfl) ?_
                  have hc_w74 : Chg (fun _ => False) w43 w43.drew := Chg.drew _ _
                  obtain ⟨w74, he_w74⟩ : ∃ w, w = w43.drew := ⟨_, rfl⟩
                  rw [← he_w74] at hc_w74 ⊢
                  have hB1 := hc_w74.at hB1 (fun e => e)
                  have hB2 := hc_w74.at hB2 (fun e => e)
                  have hB3 := hc_w74.at hB3 (fun e => e)
                  have hC := hC.trans hc_w74
                  have hz_w74 := hc_w74.size
                  refine AH.take 0 rfl (by kernel_rfl) (by kernel_rfl) (by kernel_rfl) (fun _ _ _ _ h => h) (⟨hB1.trans hB1_d.symm, hB2.trans hB2_d.symm⟩) (by decide) (fun w hS => FA50_4 rfl) ?_
                  refine AH.take 1 rfl (by kernel_rfl) (by kernel_rfl) (by kernel_rfl) (fun _ _ _ _ h => h) (⟨hB1.trans hB1_d.symm, hB2.trans hB2_d.symm⟩) (by decide) (fun w hS => R.load Tryd.underlying9 rfl rfl (cell_at (hS.1.trans hB1_d) (SeedV.at19 (by assumption)))) ?_
                  refine AH.take 2 rfl (by kernel_rfl) (by kernel_rfl) (by kernel_rfl) (fun _ _ _ _ h => h) (⟨hB1.trans hB1_d.symm, hB2.trans hB2_d.symm⟩) (by decide) (fun w hS => FA50_4 rfl) ?_
                  refine AH.take 3 rfl (by kernel_rfl) (by kernel_rfl) (by kernel_rfl) (fun _ _ _ _ h => h) (⟨hB1.trans hB1_d.symm, hB2.trans hB2_d.symm⟩) (by decide) (fun w hS => R.load Tryd.underlying9 rfl rfl (cell_at (hS.1.trans hB1_d) (SeedV.at19 (by assumption)))) ?_
                  refine AH.take 4 rfl (by kernel_rfl) (by kernel_rfl) (by kernel_rfl) (fun _ _ _ _ h => h) (⟨hB1.trans hB1_d.symm, hB2.trans hB2_d.symm⟩) (by decide) (fun w hS => R.lenS rfl rfl) ?_
                  refine AH.take 5 rfl (by kernel_rfl) (by kernel_rfl) (by kernel_rfl) (fun _ _ _ _ h => h) (⟨hB1.trans hB1_d.symm, hB2.trans hB2_d.symm⟩) (by decide) (fun w hS => R.minC rfl rfl) ?_
                  refine AH.take 6 rfl (by kernel_rfl) (by kernel_rfl) (by kernel_rfl) (fun _ _ _ _ h => h) (⟨hB1.trans hB1_d.symm, hB2.trans hB2_d.symm⟩) (by decide) (fun w hS => R.sliceHi rfl rfl) ?_
                  refine AH.take 7 rfl (by kernel_rfl) (by kernel_rfl) (by kernel_rfl) (fun _ _ _ _ h => h) (⟨hB1.trans hB1_d.symm, hB2.trans hB2_d.symm⟩) (by decide) (fun w hS => FA57_1 rfl) ?_
                  refine AH.eff 8 (by kernel_rfl) rfl rfl (OP.storeRType rfl rfl hB3 ?_)
                  intro w75 hc_w75 hs_w75 hB3
                  have hB1 := hc_w75.at hB1 (fun e => by omega)
                  have hB2 := hc_w75.at hB2 (fun e => by omega)
                  have hC := hC.thenB hc_w75 (by omega)
                  refine ⟨⟨hB1.trans hB1_d.symm, hB2.trans hB2_d.symm⟩, ?_⟩
                  refine AH.take 9 rfl (by kernel_rfl) (by kernel_rfl) (by kernel_rfl) (fun _ _ _ _ h => h) (⟨hB1.trans hB1_d.symm, hB2.trans hB2_d.symm⟩) (by decide) (fun w hS => FA57_5 rfl) ?_
                  refine AH.eff 10 (by kernel_rfl) rfl rfl (OP.storeRData (by first | assumption | rfl) rfl rfl hB3 ?_)
                  intro w76 hc_w76 hs_w76 hB3
                  have hB1 := hc_w76.at hB1 (fun e => by omega)
                  have hB2 := hc_w76.at hB2 (fun e => by omega)
                  have hC := hC.thenB hc_w76 (by omega)
                  refine ⟨⟨hB1.trans hB1_d.symm, hB2.trans hB2_d.symm⟩, ?_⟩
                  refine AH.done (by kernel_rfl) ?_
                  refine EW.inNormal ?_
                  refine EW.next ?_
                  refine CW.rseq ?_
                  refine WL.op (by decide) (R.loadRB (by first | assumption | rfl) rfl hB3) ?_
                  refine WL.eff rfl (OP.storeR rfl rfl (by first | assumption | rfl) (by first | assumption | rfl) hB2 ?_)
                  intro w77 hc_w77 hs_w77 hB2
                  have hB1 := hc_w77.at hB1 (fun e => by omega)
                  have hB3 := hc_w77.at hB3 (fun e => by omega)
                  have hC := hC.thenB hc_w77 (by omega)
                  refine WL.next ?_
                  refine CW.ret ?_
                  have hR := rec_f (s := s) (by omega) (by omega)
                  exact EW.retC (.inl rfl) rfl rfl (cs := (recS s).cells) Tryd.underlying57 rfl (by rw [Rec.length (recS_addr hs16)]; exact sz57) (fun j u hj => cell_at hB2 (by rw [hR] at hj; rw [List.getElem?_toArray]; exact hj)) ⟨rfl, hC⟩
end Go.Proofs.YthcpjcgjmdfpjaaDoor
