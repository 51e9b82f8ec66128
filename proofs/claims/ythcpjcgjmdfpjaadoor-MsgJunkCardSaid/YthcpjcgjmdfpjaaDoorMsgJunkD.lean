/- MsgJunk: the statement MsgJunk is proved (its card): no conditions. Here: Match, Same, Ops7, Fit04, SeedOps, Flat, Places, MsgOps, MsgJunk, MsgJunkCard. -/
import Derived.Lib.Bytealg
import Derived.Laws.OwnMore
import Derived.Test.YthcpjcgjmdfpjaaDoorMsgJunkC
namespace Go.Proofs.YthcpjcgjmdfpjaaDoor
open Go Go.RowKit
set_option maxRecDepth 100000
set_option maxHeartbeats 4000000

/-- Does it come where it is waited for? -/
def passT (t : Tr) (link gen : Int) (frm : List UInt8) (port : Int) : Bool := decide (link = t.link) && decide (gen = t.gen) && decide (port = t.port) && (t.group || decide (frm = t.to))
/-- Does it answer? -/
def ansT (t : Tr) (m : Msg) : Bool := m.reply && decide (m.id = t.id) && decide (m.qname = t.qname) && decide (m.qtype = t.qtype)
def MatchRes (t : Tr) (link gen : Int) (frm : List UInt8) (port : Int) (base : Nat) (res : Option Msg) (e : Ending) (w : World) : Prop :=
  match res with
  | some m => if passT t link gen frm port = true then ∃ v, e = .returned (.tuple #[v, .bool (ansT t m)]) ∧ MVF base w v m else e = .returned (.tuple #[zeroMV, .bool false])
  | none => e = .returned (.tuple #[zeroMV, .bool false])
theorem ans4 {a : Bool} {p q : Prop} : a = false ∨ (a = true ∧ ¬ p) ∨ (a = true ∧ p ∧ ¬ q) ∨ (a = true ∧ p ∧ q) := by
  cases a <;> by_cases hp : p <;> by_cases hq : q <;> simp [hp, hq]
theorem match_any (t : Tr) (link gen : Int) (frm : List UInt8) (port : Int) (A : Option Addr) (m c : Nat) (bs : List UInt8) (w : World) (h16 : t.to.length = 16) (hf16 : frm.length = 16) (hS : Src w A m c bs) (hgl : ∀ g o, A = some ⟨g, o, none⟩ → g < w.heap.size) (hm : m ≤ 1099511627776) (hG : Glob w) :
    Calls Tryd.prog 23 #[t.val, .int .i64 link, .int .i64 gen, .agg (frm.map u8v).toArray, .int .i64 port, .slice A m c] w fun e w' => Chg (fun _ => False) w w' ∧ MatchRes t link gen frm port w.heap.size (decode bs) e w' := by
  refine calls_cw (args := [t.val, .int .i64 link, .int .i64 gen, .agg (frm.map u8v).toArray, .int .i64 port, .slice A m c]) Tryd.func23 rfl rfl ?_
  show CW _ _ _ 70 [(0, t.val), (1, .int .i64 link), (2, .int .i64 gen), (3, .agg (frm.map u8v).toArray), (4, .int .i64 port), (5, .slice A m c)] w
  refine CW.rseq ?_
  refine WL.eff rfl (OP.box (by decide) rfl ?_)
  intro w1 hc1 hs1 hT0
  obtain ⟨bt, he_bt⟩ : ∃ b, b = w.heap.size := ⟨_, rfl⟩
  have hT : w1.heap[bt]? = some (.cells t.cells.toArray 29 (0, 0)) := by rw [he_bt]; exact hT0
  rw [← he_bt]
  refine WL.eff rfl (OP.box (by decide) rfl ?_)
  intro w2 hc2 hs2 hF0
  obtain ⟨bf, he_bf⟩ : ∃ b, b = w1.heap.size := ⟨_, rfl⟩
  have hF : w2.heap[bf]? = some (.cells (frm.map u8v).toArray 27 (0, 0)) := by rw [he_bf]; exact hF0
  rw [← he_bf]
  have hT := hc2.at hT (fun e => e)
  refine WL.eff rfl (OP.alloc1 (.agg (Msg.cells ⟨0, false, false, false, 0, [], 0, [], []⟩ (.slice none 0 0) (.slice none 0 0)).toArray) (by decide) (by kernel_rfl) ?_)
  intro w3 hc3 hs3 hR0
  obtain ⟨br, he_br⟩ : ∃ b, b = w2.heap.size := ⟨_, rfl⟩
  have hR : w3.heap[br]? = some (.cells (Msg.cells ⟨0, false, false, false, 0, [], 0, [], []⟩ (.slice none 0 0) (.slice none 0 0)).toArray 33 (0, 0)) := by rw [he_br]; exact hR0
  rw [← he_br]
  have hT := hc3.at hT (fun e => e)
  have hF := hc3.at hF (fun e => e)
  have hc13 : Chg (fun _ => False) w w3 := (hc1.trans hc2).trans hc3
  refine WL.op (by decide) (R.assign rfl) ?_
  refine WL.next ?_
  refine CW.rseq ?_
  refine WL.op (by decide) (R.move rfl) ?_
  refine WL.eff rfl (OP.call (by decide) Tryd.func27 (by kernel_rfl) (by kernel_rfl) rfl (decode_any A m c bs w3 (hS.kept hc13 (fun _ _ _ e => e)) (fun g o h => by have := hgl g o h; omega) hm (hG.kept hc13 (fun e => e))) ?_)
  rintro ed w4 ⟨hc4, hres⟩
  have hz4 := hc4.size
  have hT := hc4.at hT (fun e => e)
  have hF := hc4.at hF (fun e => e)
  have hR := hc4.at hR (fun e => e)
  have hC := hc13.trans hc4
  cases hd : decode bs
  · skip
    rw [hd] at hres
    obtain rfl := hres
    refine ⟨_, rfl, ?_⟩
    refine WL.op (by decide) (R.move rfl) ?_
    refine WL.op (by decide) (R.extract rfl rfl) ?_
    refine WL.op (by decide) (R.extract rfl rfl) ?_
    refine WL.eff rfl (OP.alloc1 (.agg (Msg.cells ⟨0, false, false, false, 0, [], 0, [], []⟩ (.slice none 0 0) (.slice none 0 0)).toArray) (by decide) (by kernel_rfl) ?_)
    intro w5 hc5 hs5 hB0
    obtain ⟨bm, he_bm⟩ : ∃ b, b = w4.heap.size := ⟨_, rfl⟩
    have hBm : w5.heap[bm]? = some (.cells (Msg.cells ⟨0, false, false, false, 0, [], 0, [], []⟩ (.slice none 0 0) (.slice none 0 0)).toArray 33 (0, 0)) := by rw [he_bm]; exact hB0
    rw [← he_bm]
    have hT := hc5.at hT (fun e => e)
    have hF := hc5.at hF (fun e => e)
    have hR := hc5.at hR (fun e => e)
    have hC := hC.trans hc5
    refine WL.eff rfl (OP.storeAgg inf33.choose_spec.1 (by rw [inf33.choose_spec.2]; rfl) rfl rfl (m_all _ _ _ _ _ _ _) hBm rfl ?_)
    intro w6 hc6 hs6 hBm
    have hT := hc6.at hT (fun e => by omega)
    have hF := hc6.at hF (fun e => by omega)
    have hR := hc6.at hR (fun e => by omega)
    have hC := hC.then hc6 (fun k hk e => by omega)
    have hc46 : Chg (fun _ => False) w4 w6 := hc5.then hc6 (fun k hk e => by omega)
    refine WL.op (by decide) (R.assign rfl) ?_
    refine WL.next ?_
    refine CW.seq ?_
    refine CW.rseq ?_
    refine WL.op (by decide) (R.move rfl) ?_
    refine WL.op (by decide) (R.neq rfl rfl (c := true) (by decide)) ?_
    refine WL.op (by decide) (R.move rfl) ?_
    refine WL.pass (by decide) rfl rfl rfl ?_
    refine WL.pass (by decide) rfl rfl rfl ?_
    refine WL.pass (by decide) rfl rfl rfl ?_
    refine WL.pass (by decide) rfl rfl rfl ?_
    refine WL.op (by decide) (R.pickT rfl rfl) ?_
    refine WL.op (by decide) (R.move rfl) ?_
    refine WL.pass (by decide) rfl rfl rfl ?_
    refine WL.pass (by decide) rfl rfl rfl ?_
    refine WL.pass (by decide) rfl rfl rfl ?_
    refine WL.pass (by decide) rfl rfl rfl ?_
    refine WL.op (by decide) (R.pickT rfl rfl) ?_
    refine WL.op (by decide) (R.move rfl) ?_
    refine WL.pass (by decide) rfl rfl rfl ?_
    refine WL.pass (by decide) rfl rfl rfl ?_
    refine WL.pass (by decide) rfl rfl rfl ?_
    refine WL.pass (by decide) rfl rfl rfl ?_
    refine WL.op (by decide) (R.pickT rfl rfl) ?_
    refine WL.op (by decide) (R.move rfl) ?_
    refine WL.pass (by decide) rfl rfl rfl ?_
    refine WL.pass (by decide) rfl rfl rfl ?_
    refine WL.pass (by decide) rfl rfl rfl ?_
    refine WL.pass (by decide) rfl rfl rfl ?_
    refine WL.passU (by decide) rfl rfl ?_
    refine WL.passU (by decide) rfl rfl ?_
    refine WL.passU (by decide) rfl rfl ?_
    refine WL.passU (by decide) rfl rfl ?_
    refine WL.pass (by decide) rfl rfl rfl ?_
    refine WL.op (by decide) (R.pickT rfl rfl) ?_
    refine WL.next ?_
    refine CW.condT rfl ?_
    refine CW.rseq ?_
    refine WL.op (by decide) (R.build (parts := []) (vals := []) rfl (fun w => build33_0 w)) ?_
    refine WL.eff rfl (OP.storeAgg inf33.choose_spec.1 (by rw [inf33.choose_spec.2]; rfl) rfl rfl (m_all _ _ _ _ _ _ _) hR rfl ?_)
    intro w7 hc7 hs7 hR
    have hC := hC.then hc7 (fun k hk e => by omega)
    refine WL.op (by decide) (R.assign rfl) ?_
    refine WL.next ?_
    refine CW.ret ?_
    refine EW.thenRet ?_
    exact EW.retCT (.inl rfl) rfl rfl rfl (cs := Msg.cells ⟨0, false, false, false, 0, [], 0, [], []⟩ (.slice none 0 0) (.slice none 0 0)) Tryd.underlying33 rfl sz33 (fun j u hj => cell_at hR (by rw [List.getElem?_toArray]; exact hj)) ⟨hC, rfl⟩
  · skip
    rename_i M
    rw [hd] at hres
    obtain ⟨v, rfl, va, vb, rfl, hva, hvb, hfa, hfb⟩ := hres
    obtain ⟨Aa, ca, rfl, _⟩ := hva.form
    obtain ⟨Ab, cb, rfl, _⟩ := hvb.form
    refine ⟨_, rfl, ?_⟩
    refine WL.op (by decide) (R.move rfl) ?_
    refine WL.op (by decide) (R.extract rfl rfl) ?_
    refine WL.op (by decide) (R.extract rfl rfl) ?_
    refine WL.eff rfl (OP.alloc1 (.agg (Msg.cells ⟨0, false, false, false, 0, [], 0, [], []⟩ (.slice none 0 0) (.slice none 0 0)).toArray) (by decide) (by kernel_rfl) ?_)
    intro w5 hc5 hs5 hB0
    obtain ⟨bm, he_bm⟩ : ∃ b, b = w4.heap.size := ⟨_, rfl⟩
    have hBm : w5.heap[bm]? = some (.cells (Msg.cells ⟨0, false, false, false, 0, [], 0, [], []⟩ (.slice none 0 0) (.slice none 0 0)).toArray 33 (0, 0)) := by rw [he_bm]; exact hB0
    rw [← he_bm]
    have hT := hc5.at hT (fun e => e)
    have hF := hc5.at hF (fun e => e)
    have hR := hc5.at hR (fun e => e)
    have hC := hC.trans hc5
    refine WL.eff rfl (OP.storeAgg inf33.choose_spec.1 (by rw [inf33.choose_spec.2]; rfl) rfl rfl (m_all _ _ _ _ _ _ _) hBm rfl ?_)
    intro w6 hc6 hs6 hBm
    have hT := hc6.at hT (fun e => by omega)
    have hF := hc6.at hF (fun e => by omega)
    have hR := hc6.at hR (fun e => by omega)
    have hC := hC.then hc6 (fun k hk e => by omega)
    have hc46 : Chg (fun _ => False) w4 w6 := hc5.then hc6 (fun k hk e => by omega)
    refine WL.op (by decide) (R.assign rfl) ?_
    refine WL.next ?_
    refine CW.seq ?_
    refine CW.rseq ?_
    refine WL.op (by decide) (R.move rfl) ?_
    refine WL.op (by decide) (R.neq rfl rfl (c := false) (by decide)) ?_
    refine WL.op (by decide) (R.move rfl) ?_
    refine WL.gop (by decide) rfl rfl rfl (R.move rfl) ?_
    refine WL.gop (by decide) rfl rfl rfl (FA29_1 rfl) ?_
    refine WL.gop (by decide) rfl rfl rfl (R.load Tryd.underlying3 rfl rfl (cell_at hT rfl)) ?_
    refine WL.gsplit _ (by decide) rfl rfl rfl (R.neqD rfl rfl) (fun h1 => ?_) (fun h1 => ?_)
    · skip
      refine WL.op (by decide) (R.pickF rfl rfl) ?_
      refine WL.op (by decide) (R.move rfl) ?_
      refine WL.pass (by decide) rfl rfl rfl ?_
      refine WL.pass (by decide) rfl rfl rfl ?_
      refine WL.pass (by decide) rfl rfl rfl ?_
      refine WL.pass (by decide) rfl rfl rfl ?_
      refine WL.op (by decide) (R.pickT rfl rfl) ?_
      refine WL.op (by decide) (R.move rfl) ?_
      refine WL.pass (by decide) rfl rfl rfl ?_
      refine WL.pass (by decide) rfl rfl rfl ?_
      refine WL.pass (by decide) rfl rfl rfl ?_
      refine WL.pass (by decide) rfl rfl rfl ?_
      refine WL.op (by decide) (R.pickT rfl rfl) ?_
      refine WL.op (by decide) (R.move rfl) ?_
      refine WL.pass (by decide) rfl rfl rfl ?_
      refine WL.pass (by decide) rfl rfl rfl ?_
      refine WL.pass (by decide) rfl rfl rfl ?_
      refine WL.pass (by decide) rfl rfl rfl ?_
      refine WL.passU (by decide) rfl rfl ?_
      refine WL.passU (by decide) rfl rfl ?_
      refine WL.passU (by decide) rfl rfl ?_
      refine WL.passU (by decide) rfl rfl ?_
      refine WL.pass (by decide) rfl rfl rfl ?_
      refine WL.op (by decide) (R.pickT rfl rfl) ?_
      refine WL.next ?_
      refine CW.condT rfl ?_
      refine CW.rseq ?_
      refine WL.op (by decide) (R.build (parts := []) (vals := []) rfl (fun w => build33_0 w)) ?_
      refine WL.eff rfl (OP.storeAgg inf33.choose_spec.1 (by rw [inf33.choose_spec.2]; rfl) rfl rfl (m_all _ _ _ _ _ _ _) hR rfl ?_)
      intro w7 hc7 hs7 hR
      have hC := hC.then hc7 (fun k hk e => by omega)
      refine WL.op (by decide) (R.assign rfl) ?_
      refine WL.next ?_
      refine CW.ret ?_
      refine EW.thenRet ?_
      exact EW.retCT (.inl rfl) rfl rfl rfl (cs := Msg.cells ⟨0, false, false, false, 0, [], 0, [], []⟩ (.slice none 0 0) (.slice none 0 0)) Tryd.underlying33 rfl sz33 (fun j u hj => cell_at hR (by rw [List.getElem?_toArray]; exact hj)) ⟨hC, by show MatchRes _ _ _ _ _ _ (some M) _ _; unfold MatchRes; simp only; rw [if_neg (by unfold passT; simp [*])]; rfl⟩
    · skip
      refine WL.op (by decide) (R.pickF rfl rfl) ?_
      refine WL.op (by decide) (R.move rfl) ?_
      refine WL.gop (by decide) rfl rfl rfl (R.move rfl) ?_
      refine WL.gop (by decide) rfl rfl rfl (FA29_2 rfl) ?_
      refine WL.gop (by decide) rfl rfl rfl (R.load Tryd.underlying3 rfl rfl (cell_at hT rfl)) ?_
      refine WL.gsplit _ (by decide) rfl rfl rfl (R.neqD rfl rfl) (fun h2 => ?_) (fun h2 => ?_)
      · skip
        refine WL.op (by decide) (R.pickF rfl rfl) ?_
        refine WL.op (by decide) (R.move rfl) ?_
        refine WL.pass (by decide) rfl rfl rfl ?_
        refine WL.pass (by decide) rfl rfl rfl ?_
        refine WL.pass (by decide) rfl rfl rfl ?_
        refine WL.pass (by decide) rfl rfl rfl ?_
        refine WL.op (by decide) (R.pickT rfl rfl) ?_
        refine WL.op (by decide) (R.move rfl) ?_
        refine WL.pass (by decide) rfl rfl rfl ?_
        refine WL.pass (by decide) rfl rfl rfl ?_
        refine WL.pass (by decide) rfl rfl rfl ?_
        refine WL.pass (by decide) rfl rfl rfl ?_
        refine WL.passU (by decide) rfl rfl ?_
        refine WL.passU (by decide) rfl rfl ?_
        refine WL.passU (by decide) rfl rfl ?_
        refine WL.passU (by decide) rfl rfl ?_
        refine WL.pass (by decide) rfl rfl rfl ?_
        refine WL.op (by decide) (R.pickT rfl rfl) ?_
        refine WL.next ?_
        refine CW.condT rfl ?_
        refine CW.rseq ?_
        refine WL.op (by decide) (R.build (parts := []) (vals := []) rfl (fun w => build33_0 w)) ?_
        refine WL.eff rfl (OP.storeAgg inf33.choose_spec.1 (by rw [inf33.choose_spec.2]; rfl) rfl rfl (m_all _ _ _ _ _ _ _) hR rfl ?_)
        intro w7 hc7 hs7 hR
        have hC := hC.then hc7 (fun k hk e => by omega)
        refine WL.op (by decide) (R.assign rfl) ?_
        refine WL.next ?_
        refine CW.ret ?_
        refine EW.thenRet ?_
        exact EW.retCT (.inl rfl) rfl rfl rfl (cs := Msg.cells ⟨0, false, false, false, 0, [], 0, [], []⟩ (.slice none 0 0) (.slice none 0 0)) Tryd.underlying33 rfl sz33 (fun j u hj => cell_at hR (by rw [List.getElem?_toArray]; exact hj)) ⟨hC, by show MatchRes _ _ _ _ _ _ (some M) _ _; unfold MatchRes; simp only; rw [if_neg (by unfold passT; simp [*])]; rfl⟩
      · skip
        refine WL.op (by decide) (R.pickF rfl rfl) ?_
        refine WL.op (by decide) (R.move rfl) ?_
        refine WL.gop (by decide) rfl rfl rfl (R.move rfl) ?_
        refine WL.gop (by decide) rfl rfl rfl (FA29_5 rfl) ?_
        refine WL.gop (by decide) rfl rfl rfl (R.load Tryd.underlying3 rfl rfl (cell_at hT (Tr.at21 h16))) ?_
        refine WL.gsplit _ (by decide) rfl rfl rfl (R.neqD rfl rfl) (fun h3 => ?_) (fun h3 => ?_)
        · skip
          refine WL.op (by decide) (R.pickF rfl rfl) ?_
          refine WL.op (by decide) (R.move rfl) ?_
          refine WL.pass (by decide) rfl rfl rfl ?_
          refine WL.pass (by decide) rfl rfl rfl ?_
          refine WL.pass (by decide) rfl rfl rfl ?_
          refine WL.pass (by decide) rfl rfl rfl ?_
          refine WL.passU (by decide) rfl rfl ?_
          refine WL.passU (by decide) rfl rfl ?_
          refine WL.passU (by decide) rfl rfl ?_
          refine WL.passU (by decide) rfl rfl ?_
          refine WL.pass (by decide) rfl rfl rfl ?_
          refine WL.op (by decide) (R.pickT rfl rfl) ?_
          refine WL.next ?_
          refine CW.condT rfl ?_
          refine CW.rseq ?_
          refine WL.op (by decide) (R.build (parts := []) (vals := []) rfl (fun w => build33_0 w)) ?_
          refine WL.eff rfl (OP.storeAgg inf33.choose_spec.1 (by rw [inf33.choose_spec.2]; rfl) rfl rfl (m_all _ _ _ _ _ _ _) hR rfl ?_)
          intro w7 hc7 hs7 hR
          have hC := hC.then hc7 (fun k hk e => by omega)
          refine WL.op (by decide) (R.assign rfl) ?_
          refine WL.next ?_
          refine CW.ret ?_
          refine EW.thenRet ?_
          exact EW.retCT (.inl rfl) rfl rfl rfl (cs := Msg.cells ⟨0, false, false, false, 0, [], 0, [], []⟩ (.slice none 0 0) (.slice none 0 0)) Tryd.underlying33 rfl sz33 (fun j u hj => cell_at hR (by rw [List.getElem?_toArray]; exact hj)) ⟨hC, by show MatchRes _ _ _ _ _ _ (some M) _ _; unfold MatchRes; simp only; rw [if_neg (by unfold passT; simp [*])]; rfl⟩
        · skip
          refine WL.op (by decide) (R.pickF rfl rfl) ?_
          refine WL.op (by decide) (R.move rfl) ?_
          refine WL.gop (by decide) rfl rfl rfl (FA29_7 rfl) ?_
          cases hgr : t.group
          · skip
            refine WL.gop (by decide) rfl rfl rfl (R.load (v := .bool false) Tryd.underlying4 rfl rfl (cell_at hT ((Tr.at23 h16).trans (by rw [hgr])))) ?_
            refine WL.gop (by decide) rfl rfl rfl (R.not rfl) ?_
            refine WL.gop (by decide) rfl rfl rfl (R.move rfl) ?_
            refine WL.gop (by decide) rfl rfl rfl (R.loadAgg1 (cs := frm.map u8v) Tryd.underlying27 rfl (by rw [List.length_map, hf16]; exact sz27) rfl (fun j u hj => cell_at hF (by rw [Nat.zero_add, List.getElem?_toArray]; exact hj))) ?_
            refine WL.gop (by decide) rfl rfl rfl (FA29_3 rfl) ?_
            refine WL.gop (by decide) rfl rfl rfl (R.loadAgg1 (cs := t.to.map u8v) Tryd.underlying27 rfl (by rw [List.length_map, h16]; exact sz27) rfl (fun j u hj => cell_at hT (by rw [Nat.zero_add]; exact Tr.atTo hj))) ?_
            by_cases hto : frm = t.to
            · skip
              refine WL.gop (by decide) rfl rfl rfl (R.neq27 (c := false) (a := frm) (b := t.to) hf16 h16 rfl rfl (by simp [hto])) ?_
              refine WL.gop (by decide) rfl rfl rfl (R.pickT rfl rfl) ?_
              refine WL.op (by decide) (R.pickF rfl rfl) ?_
              refine WL.next ?_
              refine CW.condF rfl ?_
              refine CW.skip ?_
              refine EW.next ?_
              refine CW.seq ?_
              rcases ans4 (a := M.reply) (p := M.id = t.id) (q := M.qname = t.qname ∧ M.qtype = t.qtype) with h1 | ⟨h1, h2⟩ | ⟨h1, h2, h3⟩ | ⟨h1, h2, h3⟩
              · skip
                refine CW.draw (fun w0 => w0.heap[bm]? = some (.cells (M.cells (.slice Aa M.ans.length ca) (.slice Ab M.auth.length cb)).toArray 33 (0, 0)) ∧ w0.heap[bt]? = some (.cells t.cells.toArray 29 (0, 0))) (by kernel_rfl) ?_
                refine AH.take 0 rfl (by kernel_rfl) (by kernel_rfl) (by kernel_rfl) (fun _ _ _ _ h => h) ⟨hBm, hT⟩ (by decide) (fun w hS => R.loadAgg1 (cs := M.cells (.slice Aa M.ans.length ca) (.slice Ab M.auth.length cb)) Tryd.underlying33 rfl sz33 rfl (fun j u hj => cell_at hS.1 (by rw [Nat.zero_add, List.getElem?_toArray]; exact hj))) ?_
                refine AH.take 1 rfl (by kernel_rfl) (by kernel_rfl) (by kernel_rfl) (fun _ _ _ _ h => h) ⟨hBm, hT⟩ (by decide) (fun w hS => FA33_1 rfl) ?_
                refine AH.take 2 rfl (by kernel_rfl) (by kernel_rfl) (by kernel_rfl) (fun _ _ _ _ h => h) ⟨hBm, hT⟩ (by decide) (fun w hS => R.load (v := .bool false) Tryd.underlying4 rfl rfl (cell_at hS.1 (show _ = some (Value.bool false) from congrArg (fun b => some (Value.bool b)) h1))) ?_
                refine AH.take 3 rfl (by kernel_rfl) (by kernel_rfl) (by kernel_rfl) (fun _ _ _ _ h => h) ⟨hBm, hT⟩ (by decide) (fun w hS => R.move rfl) ?_
                refine AH.pass 4 rfl (by kernel_rfl) (by kernel_rfl) (by kernel_rfl) (fun _ _ _ _ h => h) ⟨hBm, hT⟩ (by decide) rfl rfl rfl ?_
                refine AH.pass 5 rfl (by kernel_rfl) (by kernel_rfl) (by kernel_rfl) (fun _ _ _ _ h => h) ⟨hBm, hT⟩ (by decide) rfl rfl rfl ?_
                refine AH.pass 6 rfl (by kernel_rfl) (by kernel_rfl) (by kernel_rfl) (fun _ _ _ _ h => h) ⟨hBm, hT⟩ (by decide) rfl rfl rfl ?_
                refine AH.pass 7 rfl (by kernel_rfl) (by kernel_rfl) (by kernel_rfl) (fun _ _ _ _ h => h) ⟨hBm, hT⟩ (by decide) rfl rfl rfl ?_
                refine AH.pass 8 rfl (by kernel_rfl) (by kernel_rfl) (by kernel_rfl) (fun _ _ _ _ h => h) ⟨hBm, hT⟩ (by decide) rfl rfl rfl ?_
                refine AH.take 9 rfl (by kernel_rfl) (by kernel_rfl) (by kernel_rfl) (fun _ _ _ _ h => h) ⟨hBm, hT⟩ (by decide) (fun w hS => R.pickF rfl rfl) ?_
                refine AH.take 10 rfl (by kernel_rfl) (by kernel_rfl) (by kernel_rfl) (fun _ _ _ _ h => h) ⟨hBm, hT⟩ (by decide) (fun w hS => R.move rfl) ?_
                refine AH.pass 11 rfl (by kernel_rfl) (by kernel_rfl) (by kernel_rfl) (fun _ _ _ _ h => h) ⟨hBm, hT⟩ (by decide) rfl rfl rfl ?_
                refine AH.pass 12 rfl (by kernel_rfl) (by kernel_rfl) (by kernel_rfl) (fun _ _ _ _ h => h) ⟨hBm, hT⟩ (by decide) rfl rfl rfl ?_
                refine AH.pass 13 rfl (by kernel_rfl) (by kernel_rfl) (by kernel_rfl) (fun _ _ _ _ h => h) ⟨hBm, hT⟩ (by decide) rfl rfl rfl ?_
                refine AH.pass 14 rfl (by kernel_rfl) (by kernel_rfl) (by kernel_rfl) (fun _ _ _ _ h => h) ⟨hBm, hT⟩ (by decide) rfl rfl rfl ?_
                refine AH.pass 15 rfl (by kernel_rfl) (by kernel_rfl) (by kernel_rfl) (fun _ _ _ _ h => h) ⟨hBm, hT⟩ (by decide) rfl rfl rfl ?_
                refine AH.take 16 rfl (by kernel_rfl) (by kernel_rfl) (by kernel_rfl) (fun _ _ _ _ h => h) ⟨hBm, hT⟩ (by decide) (fun w hS => R.pickF rfl rfl) ?_
                refine AH.eff 17 (by kernel_rfl) rfl rfl (OP.storeAgg inf33.choose_spec.1 (by rw [inf33.choose_spec.2]; rfl) rfl rfl (m_all _ _ _ _ _ _ _) hR rfl ?_)
                intro w7 hc7 hs7 hR
                have hC := (hC.trans (Chg.drew _ _)).then hc7 (fun k hk e => by omega)
                have hC2 : Chg (fun k => k = br) w4 w7 := ((hc46.trans (Chg.drew _ _)).mono (fun _ _ e => e.elim)).then hc7 (fun k hk e => e)
                have hS2 := (show _ ∧ _ from ⟨hc7.at hBm (fun e => by omega), hc7.at hT (fun e => by omega)⟩)
                refine ⟨hS2, ?_⟩
                refine AH.take 18 rfl (by kernel_rfl) (by kernel_rfl) (by kernel_rfl) (fun _ _ _ _ h => h) hS2 (by decide) (fun w hS => R.assign rfl) ?_
                refine AH.done (by kernel_rfl) ?_
                have hans : ansT t M = false := by unfold ansT; simp [h1]
                refine EW.next ?_
                refine CW.ret ?_
                exact EW.retCT (.inl rfl) rfl rfl rfl (cs := M.cells (.slice Aa M.ans.length ca) (.slice Ab M.auth.length cb)) Tryd.underlying33 rfl sz33 (fun j u hj => cell_at hR (by rw [List.getElem?_toArray]; exact hj)) ⟨hC, by show MatchRes _ _ _ _ _ _ (some M) _ _; unfold MatchRes; simp only; rw [if_pos (by unfold passT; rw [decide_eq_true (show link = t.link by omega), decide_eq_true (show gen = t.gen by omega), decide_eq_true (show port = t.port by omega)]; simp [*])]; exact ⟨_, by rw [show ansT t M = _ from hans], _, _, rfl, hva.kept hC2 (fun k hk e => by have := hfa k hk; omega), hvb.kept hC2 (fun k hk e => by have := hfb k hk; omega), fun k hk => by have := hfa k hk; have := hc13.size; omega, fun k hk => by have := hfb k hk; have := hc13.size; omega⟩⟩
              · skip
                refine CW.draw (fun w0 => w0.heap[bm]? = some (.cells (M.cells (.slice Aa M.ans.length ca) (.slice Ab M.auth.length cb)).toArray 33 (0, 0)) ∧ w0.heap[bt]? = some (.cells t.cells.toArray 29 (0, 0))) (by kernel_rfl) ?_
                refine AH.take 0 rfl (by kernel_rfl) (by kernel_rfl) (by kernel_rfl) (fun _ _ _ _ h => h) ⟨hBm, hT⟩ (by decide) (fun w hS => R.loadAgg1 (cs := M.cells (.slice Aa M.ans.length ca) (.slice Ab M.auth.length cb)) Tryd.underlying33 rfl sz33 rfl (fun j u hj => cell_at hS.1 (by rw [Nat.zero_add, List.getElem?_toArray]; exact hj))) ?_
                refine AH.take 1 rfl (by kernel_rfl) (by kernel_rfl) (by kernel_rfl) (fun _ _ _ _ h => h) ⟨hBm, hT⟩ (by decide) (fun w hS => FA33_1 rfl) ?_
                refine AH.take 2 rfl (by kernel_rfl) (by kernel_rfl) (by kernel_rfl) (fun _ _ _ _ h => h) ⟨hBm, hT⟩ (by decide) (fun w hS => R.load (v := .bool true) Tryd.underlying4 rfl rfl (cell_at hS.1 (show _ = some (Value.bool true) from congrArg (fun b => some (Value.bool b)) h1))) ?_
                refine AH.take 3 rfl (by kernel_rfl) (by kernel_rfl) (by kernel_rfl) (fun _ _ _ _ h => h) ⟨hBm, hT⟩ (by decide) (fun w hS => R.move rfl) ?_
                refine AH.takeG 4 rfl (by kernel_rfl) (by kernel_rfl) (by kernel_rfl) (fun _ _ _ _ h => h) ⟨hBm, hT⟩ (by decide) rfl rfl rfl (fun w hS => FA33_0 rfl) ?_
                refine AH.takeG 5 rfl (by kernel_rfl) (by kernel_rfl) (by kernel_rfl) (fun _ _ _ _ h => h) ⟨hBm, hT⟩ (by decide) rfl rfl rfl (fun w hS => R.load Tryd.underlying3 rfl rfl (cell_at hS.1 rfl)) ?_
                refine AH.takeG 6 rfl (by kernel_rfl) (by kernel_rfl) (by kernel_rfl) (fun _ _ _ _ h => h) ⟨hBm, hT⟩ (by decide) rfl rfl rfl (fun w hS => FA29_4 rfl) ?_
                refine AH.takeG 7 rfl (by kernel_rfl) (by kernel_rfl) (by kernel_rfl) (fun _ _ _ _ h => h) ⟨hBm, hT⟩ (by decide) rfl rfl rfl (fun w hS => R.load Tryd.underlying3 rfl rfl (cell_at hS.2 (Tr.at20 h16))) ?_
                refine AH.takeG 8 rfl (by kernel_rfl) (by kernel_rfl) (by kernel_rfl) (fun _ _ _ _ h => h) ⟨hBm, hT⟩ (by decide) rfl rfl rfl (fun w hS => R.eql rfl rfl (decide_eq_false h2)) ?_
                refine AH.take 9 rfl (by kernel_rfl) (by kernel_rfl) (by kernel_rfl) (fun _ _ _ _ h => h) ⟨hBm, hT⟩ (by decide) (fun w hS => R.pickT rfl rfl) ?_
                refine AH.take 10 rfl (by kernel_rfl) (by kernel_rfl) (by kernel_rfl) (fun _ _ _ _ h => h) ⟨hBm, hT⟩ (by decide) (fun w hS => R.move rfl) ?_
                refine AH.pass 11 rfl (by kernel_rfl) (by kernel_rfl) (by kernel_rfl) (fun _ _ _ _ h => h) ⟨hBm, hT⟩ (by decide) rfl rfl rfl ?_
                refine AH.pass 12 rfl (by kernel_rfl) (by kernel_rfl) (by kernel_rfl) (fun _ _ _ _ h => h) ⟨hBm, hT⟩ (by decide) rfl rfl rfl ?_
                refine AH.pass 13 rfl (by kernel_rfl) (by kernel_rfl) (by kernel_rfl) (fun _ _ _ _ h => h) ⟨hBm, hT⟩ (by decide) rfl rfl rfl ?_
                refine AH.pass 14 rfl (by kernel_rfl) (by kernel_rfl) (by kernel_rfl) (fun _ _ _ _ h => h) ⟨hBm, hT⟩ (by decide) rfl rfl rfl ?_
                refine AH.pass 15 rfl (by kernel_rfl) (by kernel_rfl) (by kernel_rfl) (fun _ _ _ _ h => h) ⟨hBm, hT⟩ (by decide) rfl rfl rfl ?_
                refine AH.take 16 rfl (by kernel_rfl) (by kernel_rfl) (by kernel_rfl) (fun _ _ _ _ h => h) ⟨hBm, hT⟩ (by decide) (fun w hS => R.pickF rfl rfl) ?_
                refine AH.eff 17 (by kernel_rfl) rfl rfl (OP.storeAgg inf33.choose_spec.1 (by rw [inf33.choose_spec.2]; rfl) rfl rfl (m_all _ _ _ _ _ _ _) hR rfl ?_)
                intro w7 hc7 hs7 hR
                have hC := (hC.trans (Chg.drew _ _)).then hc7 (fun k hk e => by omega)
                have hC2 : Chg (fun k => k = br) w4 w7 := ((hc46.trans (Chg.drew _ _)).mono (fun _ _ e => e.elim)).then hc7 (fun k hk e => e)
                have hS2 := (show _ ∧ _ from ⟨hc7.at hBm (fun e => by omega), hc7.at hT (fun e => by omega)⟩)
                refine ⟨hS2, ?_⟩
                refine AH.take 18 rfl (by kernel_rfl) (by kernel_rfl) (by kernel_rfl) (fun _ _ _ _ h => h) hS2 (by decide) (fun w hS => R.assign rfl) ?_
                refine AH.done (by kernel_rfl) ?_
                have hans : ansT t M = false := by unfold ansT; simp [h2]
                refine EW.next ?_
                refine CW.ret ?_
                exact EW.retCT (.inl rfl) rfl rfl rfl (cs := M.cells (.slice Aa M.ans.length ca) (.slice Ab M.auth.length cb)) Tryd.underlying33 rfl sz33 (fun j u hj => cell_at hR (by rw [List.getElem?_toArray]; exact hj)) ⟨hC, by show MatchRes _ _ _ _ _ _ (some M) _ _; unfold MatchRes; simp only; rw [if_pos (by unfold passT; rw [decide_eq_true (show link = t.link by omega), decide_eq_true (show gen = t.gen by omega), decide_eq_true (show port = t.port by omega)]; simp [*])]; exact ⟨_, by rw [show ansT t M = _ from hans], _, _, rfl, hva.kept hC2 (fun k hk e => by have := hfa k hk; omega), hvb.kept hC2 (fun k hk e => by have := hfb k hk; omega), fun k hk => by have := hfa k hk; have := hc13.size; omega, fun k hk => by have := hfb k hk; have := hc13.size; omega⟩⟩
              · skip
                refine CW.draw (fun w0 => w0.heap[bm]? = some (.cells (M.cells (.slice Aa M.ans.length ca) (.slice Ab M.auth.length cb)).toArray 33 (0, 0)) ∧ w0.heap[bt]? = some (.cells t.cells.toArray 29 (0, 0))) (by kernel_rfl) ?_
                refine AH.take 0 rfl (by kernel_rfl) (by kernel_rfl) (by kernel_rfl) (fun _ _ _ _ h => h) ⟨hBm, hT⟩ (by decide) (fun w hS => R.loadAgg1 (cs := M.cells (.slice Aa M.ans.length ca) (.slice Ab M.auth.length cb)) Tryd.underlying33 rfl sz33 rfl (fun j u hj => cell_at hS.1 (by rw [Nat.zero_add, List.getElem?_toArray]; exact hj))) ?_
                refine AH.take 1 rfl (by kernel_rfl) (by kernel_rfl) (by kernel_rfl) (fun _ _ _ _ h => h) ⟨hBm, hT⟩ (by decide) (fun w hS => FA33_1 rfl) ?_
                refine AH.take 2 rfl (by kernel_rfl) (by kernel_rfl) (by kernel_rfl) (fun _ _ _ _ h => h) ⟨hBm, hT⟩ (by decide) (fun w hS => R.load (v := .bool true) Tryd.underlying4 rfl rfl (cell_at hS.1 (show _ = some (Value.bool true) from congrArg (fun b => some (Value.bool b)) h1))) ?_
                refine AH.take 3 rfl (by kernel_rfl) (by kernel_rfl) (by kernel_rfl) (fun _ _ _ _ h => h) ⟨hBm, hT⟩ (by decide) (fun w hS => R.move rfl) ?_
                refine AH.takeG 4 rfl (by kernel_rfl) (by kernel_rfl) (by kernel_rfl) (fun _ _ _ _ h => h) ⟨hBm, hT⟩ (by decide) rfl rfl rfl (fun w hS => FA33_0 rfl) ?_
                refine AH.takeG 5 rfl (by kernel_rfl) (by kernel_rfl) (by kernel_rfl) (fun _ _ _ _ h => h) ⟨hBm, hT⟩ (by decide) rfl rfl rfl (fun w hS => R.load Tryd.underlying3 rfl rfl (cell_at hS.1 rfl)) ?_
                refine AH.takeG 6 rfl (by kernel_rfl) (by kernel_rfl) (by kernel_rfl) (fun _ _ _ _ h => h) ⟨hBm, hT⟩ (by decide) rfl rfl rfl (fun w hS => FA29_4 rfl) ?_
                refine AH.takeG 7 rfl (by kernel_rfl) (by kernel_rfl) (by kernel_rfl) (fun _ _ _ _ h => h) ⟨hBm, hT⟩ (by decide) rfl rfl rfl (fun w hS => R.load Tryd.underlying3 rfl rfl (cell_at hS.2 (Tr.at20 h16))) ?_
                refine AH.takeG 8 rfl (by kernel_rfl) (by kernel_rfl) (by kernel_rfl) (fun _ _ _ _ h => h) ⟨hBm, hT⟩ (by decide) rfl rfl rfl (fun w hS => R.eql rfl rfl (decide_eq_true h2)) ?_
                refine AH.take 9 rfl (by kernel_rfl) (by kernel_rfl) (by kernel_rfl) (fun _ _ _ _ h => h) ⟨hBm, hT⟩ (by decide) (fun w hS => R.pickT rfl rfl) ?_
                refine AH.take 10 rfl (by kernel_rfl) (by kernel_rfl) (by kernel_rfl) (fun _ _ _ _ h => h) ⟨hBm, hT⟩ (by decide) (fun w hS => R.move rfl) ?_
                refine AH.takeG 11 rfl (by kernel_rfl) (by kernel_rfl) (by kernel_rfl) (fun _ _ _ _ h => h) ⟨hBm, hT⟩ (by decide) rfl rfl rfl (fun w hS => FA33_5 rfl) ?_
                refine AH.takeG 12 rfl (by kernel_rfl) (by kernel_rfl) (by kernel_rfl) (fun _ _ _ _ h => h) ⟨hBm, hT⟩ (by decide) rfl rfl rfl (fun w hS => R.loadAgg1 (cs := [sv M.qname, .int .i64 M.qtype]) Tryd.underlying25 rfl sz25 rfl (fun j u hj => cell_at hS.1 (by match j, hj with | 0, hj => exact hj | 1, hj => exact hj))) ?_
                refine AH.takeG 13 rfl (by kernel_rfl) (by kernel_rfl) (by kernel_rfl) (fun _ _ _ _ h => h) ⟨hBm, hT⟩ (by decide) rfl rfl rfl (fun w hS => FA29_0 rfl) ?_
                refine AH.takeG 14 rfl (by kernel_rfl) (by kernel_rfl) (by kernel_rfl) (fun _ _ _ _ h => h) ⟨hBm, hT⟩ (by decide) rfl rfl rfl (fun w hS => R.loadAgg1 (cs := [sv t.qname, .int .i64 t.qtype]) Tryd.underlying25 rfl sz25 rfl (fun j u hj => cell_at hS.2 (by match j, hj with | 0, hj => exact hj | 1, hj => exact hj))) ?_
                refine AH.takeG 15 rfl (by kernel_rfl) (by kernel_rfl) (by kernel_rfl) (fun _ _ _ _ h => h) ⟨hBm, hT⟩ (by decide) rfl rfl rfl (fun w hS => R.eql25 (a := M.qname) (b := t.qname) (m := M.qtype) (n := t.qtype) rfl rfl (decide_eq_false h3)) ?_
                refine AH.take 16 rfl (by kernel_rfl) (by kernel_rfl) (by kernel_rfl) (fun _ _ _ _ h => h) ⟨hBm, hT⟩ (by decide) (fun w hS => R.pickT rfl rfl) ?_
                refine AH.eff 17 (by kernel_rfl) rfl rfl (OP.storeAgg inf33.choose_spec.1 (by rw [inf33.choose_spec.2]; rfl) rfl rfl (m_all _ _ _ _ _ _ _) hR rfl ?_)
                intro w7 hc7 hs7 hR
                have hC := (hC.trans (Chg.drew _ _)).then hc7 (fun k hk e => by omega)
                have hC2 : Chg (fun k => k = br) w4 w7 := ((hc46.trans (Chg.drew _ _)).mono (fun _ _ e => e.elim)).then hc7 (fun k hk e => e)
                have hS2 := (show _ ∧ _ from ⟨hc7.at hBm (fun e => by omega), hc7.at hT (fun e => by omega)⟩)
                refine ⟨hS2, ?_⟩
                refine AH.take 18 rfl (by kernel_rfl) (by kernel_rfl) (by kernel_rfl) (fun _ _ _ _ h => h) hS2 (by decide) (fun w hS => R.assign rfl) ?_
                refine AH.done (by kernel_rfl) ?_
                have hans : ansT t M = false := by unfold ansT; simp; intro _ _ h4; exact fun h5 => h3 ⟨h4, h5⟩
                refine EW.next ?_
                refine CW.ret ?_
                exact EW.retCT (.inl rfl) rfl rfl rfl (cs := M.cells (.slice Aa M.ans.length ca) (.slice Ab M.auth.length cb)) Tryd.underlying33 rfl sz33 (fun j u hj => cell_at hR (by rw [List.getElem?_toArray]; exact hj)) ⟨hC, by show MatchRes _ _ _ _ _ _ (some M) _ _; unfold MatchRes; simp only; rw [if_pos (by unfold passT; rw [decide_eq_true (show link = t.link by omega), decide_eq_true (show gen = t.gen by omega), decide_eq_true (show port = t.port by omega)]; simp [*])]; exact ⟨_, by rw [show ansT t M = _ from hans], _, _, rfl, hva.kept hC2 (fun k hk e => by have := hfa k hk; omega), hvb.kept hC2 (fun k hk e => by have := hfb k hk; omega), fun k hk => by have := hfa k hk; have := hc13.size; omega, fun k hk => by have := hfb k hk; have := hc13.size; omega⟩⟩
              · skip
                refine CW.draw (fun w0 => w0.heap[bm]? = some (.cells (M.cells (.slice Aa M.ans.length ca) (.slice Ab M.auth.length cb)).toArray 33 (0, 0)) ∧ w0.heap[bt]? = some (.cells t.cells.toArray 29 (0, 0))) (by kernel_rfl) ?_
                refine AH.take 0 rfl (by kernel_rfl) (by kernel_rfl) (by kernel_rfl) (fun _ _ _ _ h => h) ⟨hBm, hT⟩ (by decide) (fun w hS => R.loadAgg1 (cs := M.cells (.slice Aa M.ans.length ca) (.slice Ab M.auth.length cb)) Tryd.underlying33 rfl sz33 rfl (fun j u hj => cell_at hS.1 (by rw [Nat.zero_add, List.getElem?_toArray]; exact hj))) ?_
                refine AH.take 1 rfl (by kernel_rfl) (by kernel_rfl) (by kernel_rfl) (fun _ _ _ _ h => h) ⟨hBm, hT⟩ (by decide) (fun w hS => FA33_1 rfl) ?_
                refine AH.take 2 rfl (by kernel_rfl) (by kernel_rfl) (by kernel_rfl) (fun _ _ _ _ h => h) ⟨hBm, hT⟩ (by decide) (fun w hS => R.load (v := .bool true) Tryd.underlying4 rfl rfl (cell_at hS.1 (show _ = some (Value.bool true) from congrArg (fun b => some (Value.bool b)) h1))) ?_
                refine AH.take 3 rfl (by kernel_rfl) (by kernel_rfl) (by kernel_rfl) (fun _ _ _ _ h => h) ⟨hBm, hT⟩ (by decide) (fun w hS => R.move rfl) ?_
                refine AH.takeG 4 rfl (by kernel_rfl) (by kernel_rfl) (by kernel_rfl) (fun _ _ _ _ h => h) ⟨hBm, hT⟩ (by decide) rfl rfl rfl (fun w hS => FA33_0 rfl) ?_
                refine AH.takeG 5 rfl (by kernel_rfl) (by kernel_rfl) (by kernel_rfl) (fun _ _ _ _ h => h) ⟨hBm, hT⟩ (by decide) rfl rfl rfl (fun w hS => R.load Tryd.underlying3 rfl rfl (cell_at hS.1 rfl)) ?_
                refine AH.takeG 6 rfl (by kernel_rfl) (by kernel_rfl) (by kernel_rfl) (fun _ _ _ _ h => h) ⟨hBm, hT⟩ (by decide) rfl rfl rfl (fun w hS => FA29_4 rfl) ?_
                refine AH.takeG 7 rfl (by kernel_rfl) (by kernel_rfl) (by kernel_rfl) (fun _ _ _ _ h => h) ⟨hBm, hT⟩ (by decide) rfl rfl rfl (fun w hS => R.load Tryd.underlying3 rfl rfl (cell_at hS.2 (Tr.at20 h16))) ?_
                refine AH.takeG 8 rfl (by kernel_rfl) (by kernel_rfl) (by kernel_rfl) (fun _ _ _ _ h => h) ⟨hBm, hT⟩ (by decide) rfl rfl rfl (fun w hS => R.eql rfl rfl (decide_eq_true h2)) ?_
                refine AH.take 9 rfl (by kernel_rfl) (by kernel_rfl) (by kernel_rfl) (fun _ _ _ _ h => h) ⟨hBm, hT⟩ (by decide) (fun w hS => R.pickT rfl rfl) ?_
                refine AH.take 10 rfl (by kernel_rfl) (by kernel_rfl) (by kernel_rfl) (fun _ _ _ _ h => h) ⟨hBm, hT⟩ (by decide) (fun w hS => R.move rfl) ?_
                refine AH.takeG 11 rfl (by kernel_rfl) (by kernel_rfl) (by kernel_rfl) (fun _ _ _ _ h => h) ⟨hBm, hT⟩ (by decide) rfl rfl rfl (fun w hS => FA33_5 rfl) ?_
                refine AH.takeG 12 rfl (by kernel_rfl) (by kernel_rfl) (by kernel_rfl) (fun _ _ _ _ h => h) ⟨hBm, hT⟩ (by decide) rfl rfl rfl (fun w hS => R.loadAgg1 (cs := [sv M.qname, .int .i64 M.qtype]) Tryd.underlying25 rfl sz25 rfl (fun j u hj => cell_at hS.1 (by match j, hj with | 0, hj => exact hj | 1, hj => exact hj))) ?_
                refine AH.takeG 13 rfl (by kernel_rfl) (by kernel_rfl) (by kernel_rfl) (fun _ _ _ _ h => h) ⟨hBm, hT⟩ (by decide) rfl rfl rfl (fun w hS => FA29_0 rfl) ?_
                refine AH.takeG 14 rfl (by kernel_rfl) (by kernel_rfl) (by kernel_rfl) (fun _ _ _ _ h => h) ⟨hBm, hT⟩ (by decide) rfl rfl rfl (fun w hS => R.loadAgg1 (cs := [sv t.qname, .int .i64 t.qtype]) Tryd.underlying25 rfl sz25 rfl (fun j u hj => cell_at hS.2 (by match j, hj with | 0, hj => exact hj | 1, hj => exact hj))) ?_
                refine AH.takeG 15 rfl (by kernel_rfl) (by kernel_rfl) (by kernel_rfl) (fun _ _ _ _ h => h) ⟨hBm, hT⟩ (by decide) rfl rfl rfl (fun w hS => R.eql25 (a := M.qname) (b := t.qname) (m := M.qtype) (n := t.qtype) rfl rfl (decide_eq_true h3)) ?_
                refine AH.take 16 rfl (by kernel_rfl) (by kernel_rfl) (by kernel_rfl) (fun _ _ _ _ h => h) ⟨hBm, hT⟩ (by decide) (fun w hS => R.pickT rfl rfl) ?_
                refine AH.eff 17 (by kernel_rfl) rfl rfl (OP.storeAgg inf33.choose_spec.1 (by rw [inf33.choose_spec.2]; rfl) rfl rfl (m_all _ _ _ _ _ _ _) hR rfl ?_)
                intro w7 hc7 hs7 hR
                have hC := (hC.trans (Chg.drew _ _)).then hc7 (fun k hk e => by omega)
                have hC2 : Chg (fun k => k = br) w4 w7 := ((hc46.trans (Chg.drew _ _)).mono (fun _ _ e => e.elim)).then hc7 (fun k hk e => e)
                have hS2 := (show _ ∧ _ from ⟨hc7.at hBm (fun e => by omega), hc7.at hT (fun e => by omega)⟩)
                refine ⟨hS2, ?_⟩
                refine AH.take 18 rfl (by kernel_rfl) (by kernel_rfl) (by kernel_rfl) (fun _ _ _ _ h => h) hS2 (by decide) (fun w hS => R.assign rfl) ?_
                refine AH.done (by kernel_rfl) ?_
                have hans : ansT t M = true := by unfold ansT; simp [h1, h2, h3.1, h3.2]
                refine EW.next ?_
                refine CW.ret ?_
                exact EW.retCT (.inl rfl) rfl rfl rfl (cs := M.cells (.slice Aa M.ans.length ca) (.slice Ab M.auth.length cb)) Tryd.underlying33 rfl sz33 (fun j u hj => cell_at hR (by rw [List.getElem?_toArray]; exact hj)) ⟨hC, by show MatchRes _ _ _ _ _ _ (some M) _ _; unfold MatchRes; simp only; rw [if_pos (by unfold passT; rw [decide_eq_true (show link = t.link by omega), decide_eq_true (show gen = t.gen by omega), decide_eq_true (show port = t.port by omega)]; simp [*])]; exact ⟨_, by rw [show ansT t M = _ from hans], _, _, rfl, hva.kept hC2 (fun k hk e => by have := hfa k hk; omega), hvb.kept hC2 (fun k hk e => by have := hfb k hk; omega), fun k hk => by have := hfa k hk; have := hc13.size; omega, fun k hk => by have := hfb k hk; have := hc13.size; omega⟩⟩
            · skip
              refine WL.gop (by decide) rfl rfl rfl (R.neq27 (c := true) (a := frm) (b := t.to) hf16 h16 rfl rfl (by simp [hto])) ?_
              refine WL.gop (by decide) rfl rfl rfl (R.pickT rfl rfl) ?_
              refine WL.op (by decide) (R.pickF rfl rfl) ?_
              refine WL.next ?_
              refine CW.condT rfl ?_
              refine CW.rseq ?_
              refine WL.op (by decide) (R.build (parts := []) (vals := []) rfl (fun w => build33_0 w)) ?_
              refine WL.eff rfl (OP.storeAgg inf33.choose_spec.1 (by rw [inf33.choose_spec.2]; rfl) rfl rfl (m_all _ _ _ _ _ _ _) hR rfl ?_)
              intro w7 hc7 hs7 hR
              have hC := hC.then hc7 (fun k hk e => by omega)
              refine WL.op (by decide) (R.assign rfl) ?_
              refine WL.next ?_
              refine CW.ret ?_
              refine EW.thenRet ?_
              exact EW.retCT (.inl rfl) rfl rfl rfl (cs := Msg.cells ⟨0, false, false, false, 0, [], 0, [], []⟩ (.slice none 0 0) (.slice none 0 0)) Tryd.underlying33 rfl sz33 (fun j u hj => cell_at hR (by rw [List.getElem?_toArray]; exact hj)) ⟨hC, by show MatchRes _ _ _ _ _ _ (some M) _ _; unfold MatchRes; simp only; rw [if_neg (by unfold passT; simp [*])]; rfl⟩
          · skip
            refine WL.gop (by decide) rfl rfl rfl (R.load (v := .bool true) Tryd.underlying4 rfl rfl (cell_at hT ((Tr.at23 h16).trans (by rw [hgr])))) ?_
            refine WL.gop (by decide) rfl rfl rfl (R.not rfl) ?_
            refine WL.gop (by decide) rfl rfl rfl (R.move rfl) ?_
            refine WL.pass (by decide) rfl rfl rfl ?_
            refine WL.pass (by decide) rfl rfl rfl ?_
            refine WL.pass (by decide) rfl rfl rfl ?_
            refine WL.pass (by decide) rfl rfl rfl ?_
            refine WL.gop (by decide) rfl rfl rfl (R.pickF rfl rfl) ?_
            refine WL.op (by decide) (R.pickF rfl rfl) ?_
            refine WL.next ?_
            refine CW.condF rfl ?_
            refine CW.skip ?_
            refine EW.next ?_
            refine CW.seq ?_
            rcases ans4 (a := M.reply) (p := M.id = t.id) (q := M.qname = t.qname ∧ M.qtype = t.qtype) with h1 | ⟨h1, h2⟩ | ⟨h1, h2, h3⟩ | ⟨h1, h2, h3⟩
            · skip
              refine CW.draw (fun w0 => w0.heap[bm]? = some (.cells (M.cells (.slice Aa M.ans.length ca) (.slice Ab M.auth.length cb)).toArray 33 (0, 0)) ∧ w0.heap[bt]? = some (.cells t.cells.toArray 29 (0, 0))) (by kernel_rfl) ?_
              refine AH.take 0 rfl (by kernel_rfl) (by kernel_rfl) (by kernel_rfl) (fun _ _ _ _ h => h) ⟨hBm, hT⟩ (by decide) (fun w hS => R.loadAgg1 (cs := M.cells (.slice Aa M.ans.length ca) (.slice Ab M.auth.length cb)) Tryd.underlying33 rfl sz33 rfl (fun j u hj => cell_at hS.1 (by rw [Nat.zero_add, List.getElem?_toArray]; exact hj))) ?_
              refine AH.take 1 rfl (by kernel_rfl) (by kernel_rfl) (by kernel_rfl) (fun _ _ _ _ h => h) ⟨hBm, hT⟩ (by decide) (fun w hS => FA33_1 rfl) ?_
              refine AH.take 2 rfl (by kernel_rfl) (by kernel_rfl) (by kernel_rfl) (fun _ _ _ _ h => h) ⟨hBm, hT⟩ (by decide) (fun w hS => R.load (v := .bool false) Tryd.underlying4 rfl rfl (cell_at hS.1 (show _ = some (Value.bool false) from congrArg (fun b => some (Value.bool b)) h1))) ?_
              refine AH.take 3 rfl (by kernel_rfl) (by kernel_rfl) (by kernel_rfl) (fun _ _ _ _ h => h) ⟨hBm, hT⟩ (by decide) (fun w hS => R.move rfl) ?_
              refine AH.pass 4 rfl (by kernel_rfl) (by kernel_rfl) (by kernel_rfl) (fun _ _ _ _ h => h) ⟨hBm, hT⟩ (by decide) rfl rfl rfl ?_
              refine AH.pass 5 rfl (by kernel_rfl) (by kernel_rfl) (by kernel_rfl) (fun _ _ _ _ h => h) ⟨hBm, hT⟩ (by decide) rfl rfl rfl ?_
              refine AH.pass 6 rfl (by kernel_rfl) (by kernel_rfl) (by kernel_rfl) (fun _ _ _ _ h => h) ⟨hBm, hT⟩ (by decide) rfl rfl rfl ?_
              refine AH.pass 7 rfl (by kernel_rfl) (by kernel_rfl) (by kernel_rfl) (fun _ _ _ _ h => h) ⟨hBm, hT⟩ (by decide) rfl rfl rfl ?_
              refine AH.pass 8 rfl (by kernel_rfl) (by kernel_rfl) (by kernel_rfl) (fun _ _ _ _ h => h) ⟨hBm, hT⟩ (by decide) rfl rfl rfl ?_
              refine AH.take 9 rfl (by kernel_rfl) (by kernel_rfl) (by kernel_rfl) (fun _ _ _ _ h => h) ⟨hBm, hT⟩ (by decide) (fun w hS => R.pickF rfl rfl) ?_
              refine AH.take 10 rfl (by kernel_rfl) (by kernel_rfl) (by kernel_rfl) (fun _ _ _ _ h => h) ⟨hBm, hT⟩ (by decide) (fun w hS => R.move rfl) ?_
              refine AH.pass 11 rfl (by kernel_rfl) (by kernel_rfl) (by kernel_rfl) (fun _ _ _ _ h => h) ⟨hBm, hT⟩ (by decide) rfl rfl rfl ?_
              refine AH.pass 12 rfl (by kernel_rfl) (by kernel_rfl) (by kernel_rfl) (fun _ _ _ _ h => h) ⟨hBm, hT⟩ (by decide) rfl rfl rfl ?_
              refine AH.pass 13 rfl (by kernel_rfl) (by kernel_rfl) (by kernel_rfl) (fun _ _ _ _ h => h) ⟨hBm, hT⟩ (by decide) rfl rfl rfl ?_
              refine AH.pass 14 rfl (by kernel_rfl) (by kernel_rfl) (by kernel_rfl) (fun _ _ _ _ h => h) ⟨hBm, hT⟩ (by decide) rfl rfl rfl ?_
              refine AH.pass 15 rfl (by kernel_rfl) (by kernel_rfl) (by kernel_rfl) (fun _ _ _ _ h => h) ⟨hBm, hT⟩ (by decide) rfl rfl rfl ?_
              refine AH.take 16 rfl (by kernel_rfl) (by kernel_rfl) (by kernel_rfl) (fun _ _ _ _ h => h) ⟨hBm, hT⟩ (by decide) (fun w hS => R.pickF rfl rfl) ?_
              refine AH.eff 17 (by kernel_rfl) rfl rfl (OP.storeAgg inf33.choose_spec.1 (by rw [inf33.choose_spec.2]; rfl) rfl rfl (m_all _ _ _ _ _ _ _) hR rfl ?_)
              intro w7 hc7 hs7 hR
              have hC := (hC.trans (Chg.drew _ _)).then hc7 (fun k hk e => by omega)
              have hC2 : Chg (fun k => k = br) w4 w7 := ((hc46.trans (Chg.drew _ _)).mono (fun _ _ e => e.elim)).then hc7 (fun k hk e => e)
              have hS2 := (show _ ∧ _ from ⟨hc7.at hBm (fun e => by omega), hc7.at hT (fun e => by omega)⟩)
              refine ⟨hS2, ?_⟩
              refine AH.take 18 rfl (by kernel_rfl) (by kernel_rfl) (by kernel_rfl) (fun _ _ _ _ h => h) hS2 (by decide) (fun w hS => R.assign rfl) ?_
              refine AH.done (by kernel_rfl) ?_
              have hans : ansT t M = false := by unfold ansT; simp [h1]
              refine EW.next ?_
              refine CW.ret ?_
              exact EW.retCT (.inl rfl) rfl rfl rfl (cs := M.cells (.slice Aa M.ans.length ca) (.slice Ab M.auth.length cb)) Tryd.underlying33 rfl sz33 (fun j u hj => cell_at hR (by rw [List.getElem?_toArray]; exact hj)) ⟨hC, by show MatchRes _ _ _ _ _ _ (some M) _ _; unfold MatchRes; simp only; rw [if_pos (by unfold passT; rw [decide_eq_true (show link = t.link by omega), decide_eq_true (show gen = t.gen by omega), decide_eq_true (show port = t.port by omega)]; simp [*])]; exact ⟨_, by rw [show ansT t M = _ from hans], _, _, rfl, hva.kept hC2 (fun k hk e => by have := hfa k hk; omega), hvb.kept hC2 (fun k hk e => by have := hfb k hk; omega), fun k hk => by have := hfa k hk; have := hc13.size; omega, fun k hk => by have := hfb k hk; have := hc13.size; omega⟩⟩
            · skip
              refine CW.draw (fun w0 => w0.heap[bm]? = some (.cells (M.cells (.slice Aa M.ans.length ca) (.slice Ab M.auth.length cb)).toArray 33 (0, 0)) ∧ w0.heap[bt]? = some (.cells t.cells.toArray 29 (0, 0))) (by kernel_rfl) ?_
              refine AH.take 0 rfl (by kernel_rfl) (by kernel_rfl) (by kernel_rfl) (fun _ _ _ _ h => h) ⟨hBm, hT⟩ (by decide) (fun w hS => R.loadAgg1 (cs := M.cells (.slice Aa M.ans.length ca) (.slice Ab M.auth.length cb)) Tryd.underlying33 rfl sz33 rfl (fun j u hj => cell_at hS.1 (by rw [Nat.zero_add, List.getElem?_toArray]; exact hj))) ?_
              refine AH.take 1 rfl (by kernel_rfl) (by kernel_rfl) (by kernel_rfl) (fun _ _ _ _ h => h) ⟨hBm, hT⟩ (by decide) (fun w hS => FA33_1 rfl) ?_
              refine AH.take 2 rfl (by kernel_rfl) (by kernel_rfl) (by kernel_rfl) (fun _ _ _ _ h => h) ⟨hBm, hT⟩ (by decide) (fun w hS => R.load (v := .bool true) Tryd.underlying4 rfl rfl (cell_at hS.1 (show _ = some (Value.bool true) from congrArg (fun b => some (Value.bool b)) h1))) ?_
              refine AH.take 3 rfl (by kernel_rfl) (by kernel_rfl) (by kernel_rfl) (fun _ _ _ _ h => h) ⟨hBm, hT⟩ (by decide) (fun w hS => R.move rfl) ?_
              refine AH.takeG 4 rfl (by kernel_rfl) (by kernel_rfl) (by kernel_rfl) (fun _ _ _ _ h => h) ⟨hBm, hT⟩ (by decide) rfl rfl rfl (fun w hS => FA33_0 rfl) ?_
              refine AH.takeG 5 rfl (by kernel_rfl) (by kernel_rfl) (by kernel_rfl) (fun _ _ _ _ h => h) ⟨hBm, hT⟩ (by decide) rfl rfl rfl (fun w hS => R.load Tryd.underlying3 rfl rfl (cell_at hS.1 rfl)) ?_
              refine AH.takeG 6 rfl (by kernel_rfl) (by kernel_rfl) (by kernel_rfl) (fun _ _ _ _ h => h) ⟨hBm, hT⟩ (by decide) rfl rfl rfl (fun w hS => FA29_4 rfl) ?_
              refine AH.takeG 7 rfl (by kernel_rfl) (by kernel_rfl) (by kernel_rfl) (fun _ _ _ _ h => h) ⟨hBm, hT⟩ (by decide) rfl rfl rfl (fun w hS => R.load Tryd.underlying3 rfl rfl (cell_at hS.2 (Tr.at20 h16))) ?_
              refine AH.takeG 8 rfl (by kernel_rfl) (by kernel_rfl) (by kernel_rfl) (fun _ _ _ _ h => h) ⟨hBm, hT⟩ (by decide) rfl rfl rfl (fun w hS => R.eql rfl rfl (decide_eq_false h2)) ?_
              refine AH.take 9 rfl (by kernel_rfl) (by kernel_rfl) (by kernel_rfl) (fun _ _ _ _ h => h) ⟨hBm, hT⟩ (by decide) (fun w hS => R.pickT rfl rfl) ?_
              refine AH.take 10 rfl (by kernel_rfl) (by kernel_rfl) (by kernel_rfl) (fun _ _ _ _ h => h) ⟨hBm, hT⟩ (by decide) (fun w hS => R.move rfl) ?_
              refine AH.pass 11 rfl (by kernel_rfl) (by kernel_rfl) (by kernel_rfl) (fun _ _ _ _ h => h) ⟨hBm, hT⟩ (by decide) rfl rfl rfl ?_
              refine AH.pass 12 rfl (by kernel_rfl) (by kernel_rfl) (by kernel_rfl) (fun _ _ _ _ h => h) ⟨hBm, hT⟩ (by decide) rfl rfl rfl ?_
              refine AH.pass 13 rfl (by kernel_rfl) (by kernel_rfl) (by kernel_rfl) (fun _ _ _ _ h => h) ⟨hBm, hT⟩ (by decide) rfl rfl rfl ?_
              refine AH.pass 14 rfl (by kernel_rfl) (by kernel_rfl) (by kernel_rfl) (fun _ _ _ _ h => h) ⟨hBm, hT⟩ (by decide) rfl rfl rfl ?_
              refine AH.pass 15 rfl (by kernel_rfl) (by kernel_rfl) (by kernel_rfl) (fun _ _ _ _ h => h) ⟨hBm, hT⟩ (by decide) rfl rfl rfl ?_
              refine AH.take 16 rfl (by kernel_rfl) (by kernel_rfl) (by kernel_rfl) (fun _ _ _ _ h => h) ⟨hBm, hT⟩ (by decide) (fun w hS => R.pickF rfl rfl) ?_
              refine AH.eff 17 (by kernel_rfl) rfl rfl (OP.storeAgg inf33.choose_spec.1 (by rw [inf33.choose_spec.2]; rfl) rfl rfl (m_all _ _ _ _ _ _ _) hR rfl ?_)
              intro w7 hc7 hs7 hR
              have hC := (hC.trans (Chg.drew _ _)).then hc7 (fun k hk e => by omega)
              have hC2 : Chg (fun k => k = br) w4 w7 := ((hc46.trans (Chg.drew _ _)).mono (fun _ _ e => e.elim)).then hc7 (fun k hk e => e)
              have hS2 := (show _ ∧ _ from ⟨hc7.at hBm (fun e => by omega), hc7.at hT (fun e => by omega)⟩)
              refine ⟨hS2, ?_⟩
              refine AH.take 18 rfl (by kernel_rfl) (by kernel_rfl) (by kernel_rfl) (fun _ _ _ _ h => h) hS2 (by decide) (fun w hS => R.assign rfl) ?_
              refine AH.done (by kernel_rfl) ?_
              have hans : ansT t M = false := by unfold ansT; simp [h2]
              refine EW.next ?_
              refine CW.ret ?_
              exact EW.retCT (.inl rfl) rfl rfl rfl (cs := M.cells (.slice Aa M.ans.length ca) (.slice Ab M.auth.length cb)) Tryd.underlying33 rfl sz33 (fun j u hj => cell_at hR (by rw [List.getElem?_toArray]; exact hj)) ⟨hC, by show MatchRes _ _ _ _ _ _ (some M) _ _; unfold MatchRes; simp only; rw [if_pos (by unfold passT; rw [decide_eq_true (show link = t.link by omega), decide_eq_true (show gen = t.gen by omega), decide_eq_true (show port = t.port by omega)]; simp [*])]; exact ⟨_, by rw [show ansT t M = _ from hans], _, _, rfl, hva.kept hC2 (fun k hk e => by have := hfa k hk; omega), hvb.kept hC2 (fun k hk e => by have := hfb k hk; omega), fun k hk => by have := hfa k hk; have := hc13.size; omega, fun k hk => by have := hfb k hk; have := hc13.size; omega⟩⟩
            · skip
              refine CW.draw (fun w0 => w0.heap[bm]? = some (.cells (M.cells (.slice Aa M.ans.length ca) (.slice Ab M.auth.length cb)).toArray 33 (0, 0)) ∧ w0.heap[bt]? = some (.cells t.cells.toArray 29 (0, 0))) (by kernel_rfl) ?_
              refine AH.take 0 rfl (by kernel_rfl) (by kernel_rfl) (by kernel_rfl) (fun _ _ _ _ h => h) ⟨hBm, hT⟩ (by decide) (fun w hS => R.loadAgg1 (cs := M.cells (.slice Aa M.ans.length ca) (.slice Ab M.auth.length cb)) Tryd.underlying33 rfl sz33 rfl (fun j u hj => cell_at hS.1 (by rw [Nat.zero_add, List.getElem?_toArray]; exact hj))) ?_
              refine AH.take 1 rfl (by kernel_rfl) (by kernel_rfl) (by kernel_rfl) (fun _ _ _ _ h => h) ⟨hBm, hT⟩ (by decide) (fun w hS => FA33_1 rfl) ?_
              refine AH.take 2 rfl (by kernel_rfl) (by kernel_rfl) (by kernel_rfl) (fun _ _ _ _ h => h) ⟨hBm, hT⟩ (by decide) (fun w hS => R.load (v := .bool true) Tryd.underlying4 rfl rfl (cell_at hS.1 (show _ = some (Value.bool true) from congrArg (fun b => some (Value.bool b)) h1))) ?_
              refine AH.take 3 rfl (by kernel_rfl) (by kernel_rfl) (by kernel_rfl) (fun _ _ _ _ h => h) ⟨hBm, hT⟩ (by decide) (fun w hS => R.move rfl) ?_
              refine AH.takeG 4 rfl (by kernel_rfl) (by kernel_rfl) (by kernel_rfl) (fun _ _ _ _ h => h) ⟨hBm, hT⟩ (by decide) rfl rfl rfl (fun w hS => FA33_0 rfl) ?_
              refine AH.takeG 5 rfl (by kernel_rfl) (by kernel_rfl) (by kernel_rfl) (fun _ _ _ _ h => h) ⟨hBm, hT⟩ (by decide) rfl rfl rfl (fun w hS => R.load Tryd.underlying3 rfl rfl (cell_at hS.1 rfl)) ?_
              refine AH.takeG 6 rfl (by kernel_rfl) (by kernel_rfl) (by kernel_rfl) (fun _ _ _ _ h => h) ⟨hBm, hT⟩ (by decide) rfl rfl rfl (fun w hS => FA29_4 rfl) ?_
              refine AH.takeG 7 rfl (by kernel_rfl) (by kernel_rfl) (by kernel_rfl) (fun _ _ _ _ h => h) ⟨hBm, hT⟩ (by decide) rfl rfl rfl (fun w hS => R.load Tryd.underlying3 rfl rfl (cell_at hS.2 (Tr.at20 h16))) ?_
              refine AH.takeG 8 rfl (by kernel_rfl) (by kernel_rfl) (by kernel_rfl) (fun _ _ _ _ h => h) ⟨hBm, hT⟩ (by decide) rfl rfl rfl (fun w hS => R.eql rfl rfl (decide_eq_true h2)) ?_
              refine AH.take 9 rfl (by kernel_rfl) (by kernel_rfl) (by kernel_rfl) (fun _ _ _ _ h => h) ⟨hBm, hT⟩ (by decide) (fun w hS => R.pickT rfl rfl) ?_
              refine AH.take 10 rfl (by kernel_rfl) (by kernel_rfl) (by kernel_rfl) (fun _ _ _ _ h => h) ⟨hBm, hT⟩ (by decide) (fun w hS => R.move rfl) ?_
              refine AH.takeG 11 rfl (by kernel_rfl) (by kernel_rfl) (by kernel_rfl) (fun _ _ _ _ h => h) ⟨hBm, hT⟩ (by decide) rfl rfl rfl (fun w hS => FA33_5 rfl) ?_
              refine AH.takeG 12 rfl (by kernel_rfl) (by kernel_rfl) (by kernel_rfl) (fun _ _ _ _ h => h) ⟨hBm, hT⟩ (by decide) rfl rfl rfl (fun w hS => R.loadAgg1 (cs := [sv M.qname, .int .i64 M.qtype]) Tryd.underlying25 rfl sz25 rfl (fun j u hj => cell_at hS.1 (by match j, hj with | 0, hj => exact hj | 1, hj => exact hj))) ?_
              refine AH.takeG 13 rfl (by kernel_rfl) (by kernel_rfl) (by kernel_rfl) (fun _ _ _ _ h => h) ⟨hBm, hT⟩ (by decide) rfl rfl rfl (fun w hS => FA29_0 rfl) ?_
              refine AH.takeG 14 rfl (by kernel_rfl) (by kernel_rfl) (by kernel_rfl) (fun _ _ _ _ h => h) ⟨hBm, hT⟩ (by decide) rfl rfl rfl (fun w hS => R.loadAgg1 (cs := [sv t.qname, .int .i64 t.qtype]) Tryd.underlying25 rfl sz25 rfl (fun j u hj => cell_at hS.2 (by match j, hj with | 0, hj => exact hj | 1, hj => exact hj))) ?_
              refine AH.takeG 15 rfl (by kernel_rfl) (by kernel_rfl) (by kernel_rfl) (fun _ _ _ _ h => h) ⟨hBm, hT⟩ (by decide) rfl rfl rfl (fun w hS => R.eql25 (a := M.qname) (b := t.qname) (m := M.qtype) (n := t.qtype) rfl rfl (decide_eq_false h3)) ?_
              refine AH.take 16 rfl (by kernel_rfl) (by kernel_rfl) (by kernel_rfl) (fun _ _ _ _ h => h) ⟨hBm, hT⟩ (by decide) (fun w hS => R.pickT rfl rfl) ?_
              refine AH.eff 17 (by kernel_rfl) rfl rfl (OP.storeAgg inf33.choose_spec.1 (by rw [inf33.choose_spec.2]; rfl) rfl rfl (m_all _ _ _ _ _ _ _) hR rfl ?_)
              intro w7 hc7 hs7 hR
              have hC := (hC.trans (Chg.drew _ _)).then hc7 (fun k hk e => by omega)
              have hC2 : Chg (fun k => k = br) w4 w7 := ((hc46.trans (Chg.drew _ _)).mono (fun _ _ e => e.elim)).then hc7 (fun k hk e => e)
              have hS2 := (show _ ∧ _ from ⟨hc7.at hBm (fun e => by omega), hc7.at hT (fun e => by omega)⟩)
              refine ⟨hS2, ?_⟩
              refine AH.take 18 rfl (by kernel_rfl) (by kernel_rfl) (by kernel_rfl) (fun _ _ _ _ h => h) hS2 (by decide) (fun w hS => R.assign rfl) ?_
              refine AH.done (by kernel_rfl) ?_
              have hans : ansT t M = false := by unfold ansT; simp; intro _ _ h4; exact fun h5 => h3 ⟨h4, h5⟩
              refine EW.next ?_
              refine CW.ret ?_
              exact EW.retCT (.inl rfl) rfl rfl rfl (cs := M.cells (.slice Aa M.ans.length ca) (.slice Ab M.auth.length cb)) Tryd.underlying33 rfl sz33 (fun j u hj => cell_at hR (by rw [List.getElem?_toArray]; exact hj)) ⟨hC, by show MatchRes _ _ _ _ _ _ (some M) _ _; unfold MatchRes; simp only; rw [if_pos (by unfold passT; rw [decide_eq_true (show link = t.link by omega), decide_eq_true (show gen = t.gen by omega), decide_eq_true (show port = t.port by omega)]; simp [*])]; exact ⟨_, by rw [show ansT t M = _ from hans], _, _, rfl, hva.kept hC2 (fun k hk e => by have := hfa k hk; omega), hvb.kept hC2 (fun k hk e => by have := hfb k hk; omega), fun k hk => by have := hfa k hk; have := hc13.size; omega, fun k hk => by have := hfb k hk; have := hc13.size; omega⟩⟩
            · skip
              refine CW.draw (fun w0 => w0.heap[bm]? = some (.cells (M.cells (.slice Aa M.ans.length ca) (.slice Ab M.auth.length cb)).toArray 33 (0, 0)) ∧ w0.heap[bt]? = some (.cells t.cells.toArray 29 (0, 0))) (by kernel_rfl) ?_
              refine AH.take 0 rfl (by kernel_rfl) (by kernel_rfl) (by kernel_rfl) (fun _ _ _ _ h => h) ⟨hBm, hT⟩ (by decide) (fun w hS => R.loadAgg1 (cs := M.cells (.slice Aa M.ans.length ca) (.slice Ab M.auth.length cb)) Tryd.underlying33 rfl sz33 rfl (fun j u hj => cell_at hS.1 (by rw [Nat.zero_add, List.getElem?_toArray]; exact hj))) ?_
              refine AH.take 1 rfl (by kernel_rfl) (by kernel_rfl) (by kernel_rfl) (fun _ _ _ _ h => h) ⟨hBm, hT⟩ (by decide) (fun w hS => FA33_1 rfl) ?_
              refine AH.take 2 rfl (by kernel_rfl) (by kernel_rfl) (by kernel_rfl) (fun _ _ _ _ h => h) ⟨hBm, hT⟩ (by decide) (fun w hS => R.load (v := .bool true) Tryd.underlying4 rfl rfl (cell_at hS.1 (show _ = some (Value.bool true) from congrArg (fun b => some (Value.bool b)) h1))) ?_
              refine AH.take 3 rfl (by kernel_rfl) (by kernel_rfl) (by kernel_rfl) (fun _ _ _ _ h => h) ⟨hBm, hT⟩ (by decide) (fun w hS => R.move rfl) ?_
              refine AH.takeG 4 rfl (by kernel_rfl) (by kernel_rfl) (by kernel_rfl) (fun _ _ _ _ h => h) ⟨hBm, hT⟩ (by decide) rfl rfl rfl (fun w hS => FA33_0 rfl) ?_
              refine AH.takeG 5 rfl (by kernel_rfl) (by kernel_rfl) (by kernel_rfl) (fun _ _ _ _ h => h) ⟨hBm, hT⟩ (by decide) rfl rfl rfl (fun w hS => R.load Tryd.underlying3 rfl rfl (cell_at hS.1 rfl)) ?_
              refine AH.takeG 6 rfl (by kernel_rfl) (by kernel_rfl) (by kernel_rfl) (fun _ _ _ _ h => h) ⟨hBm, hT⟩ (by decide) rfl rfl rfl (fun w hS => FA29_4 rfl) ?_
              refine AH.takeG 7 rfl (by kernel_rfl) (by kernel_rfl) (by kernel_rfl) (fun _ _ _ _ h => h) ⟨hBm, hT⟩ (by decide) rfl rfl rfl (fun w hS => R.load Tryd.underlying3 rfl rfl (cell_at hS.2 (Tr.at20 h16))) ?_
              refine AH.takeG 8 rfl (by kernel_rfl) (by kernel_rfl) (by kernel_rfl) (fun _ _ _ _ h => h) ⟨hBm, hT⟩ (by decide) rfl rfl rfl (fun w hS => R.eql rfl rfl (decide_eq_true h2)) ?_
              refine AH.take 9 rfl (by kernel_rfl) (by kernel_rfl) (by kernel_rfl) (fun _ _ _ _ h => h) ⟨hBm, hT⟩ (by decide) (fun w hS => R.pickT rfl rfl) ?_
              refine AH.take 10 rfl (by kernel_rfl) (by kernel_rfl) (by kernel_rfl) (fun _ _ _ _ h => h) ⟨hBm, hT⟩ (by decide) (fun w hS => R.move rfl) ?_
              refine AH.takeG 11 rfl (by kernel_rfl) (by kernel_rfl) (by kernel_rfl) (fun _ _ _ _ h => h) ⟨hBm, hT⟩ (by decide) rfl rfl rfl (fun w hS => FA33_5 rfl) ?_
              refine AH.takeG 12 rfl (by kernel_rfl) (by kernel_rfl) (by kernel_rfl) (fun _ _ _ _ h => h) ⟨hBm, hT⟩ (by decide) rfl rfl rfl (fun w hS => R.loadAgg1 (cs := [sv M.qname, .int .i64 M.qtype]) Tryd.underlying25 rfl sz25 rfl (fun j u hj => cell_at hS.1 (by match j, hj with | 0, hj => exact hj | 1, hj => exact hj))) ?_
              refine AH.takeG 13 rfl (by kernel_rfl) (by kernel_rfl) (by kernel_rfl) (fun _ _ _ _ h => h) ⟨hBm, hT⟩ (by decide) rfl rfl rfl (fun w hS => FA29_0 rfl) ?_
              refine AH.takeG 14 rfl (by kernel_rfl) (by kernel_rfl) (by kernel_rfl) (fun _ _ _ _ h => h) ⟨hBm, hT⟩ (by decide) rfl rfl rfl (fun w hS => R.loadAgg1 (cs := [sv t.qname, .int .i64 t.qtype]) Tryd.underlying25 rfl sz25 rfl (fun j u hj => cell_at hS.2 (by match j, hj with | 0, hj => exact hj | 1, hj => exact hj))) ?_
              refine AH.takeG 15 rfl (by kernel_rfl) (by kernel_rfl) (by kernel_rfl) (fun _ _ _ _ h => h) ⟨hBm, hT⟩ (by decide) rfl rfl rfl (fun w hS => R.eql25 (a := M.qname) (b := t.qname) (m := M.qtype) (n := t.qtype) rfl rfl (decide_eq_true h3)) ?_
              refine AH.take 16 rfl (by kernel_rfl) (by kernel_rfl) (by kernel_rfl) (fun _ _ _ _ h => h) ⟨hBm, hT⟩ (by decide) (fun w hS => R.pickT rfl rfl) ?_
              refine AH.eff 17 (by kernel_rfl) rfl rfl (OP.storeAgg inf33.choose_spec.1 (by rw [inf33.choose_spec.2]; rfl) rfl rfl (m_all _ _ _ _ _ _ _) hR rfl ?_)
              intro w7 hc7 hs7 hR
              have hC := (hC.trans (Chg.drew _ _)).then hc7 (fun k hk e => by omega)
              have hC2 : Chg (fun k => k = br) w4 w7 := ((hc46.trans (Chg.drew _ _)).mono (fun _ _ e => e.elim)).then hc7 (fun k hk e => e)
              have hS2 := (show _ ∧ _ from ⟨hc7.at hBm (fun e => by omega), hc7.at hT (fun e => by omega)⟩)
              refine ⟨hS2, ?_⟩
              refine AH.take 18 rfl (by kernel_rfl) (by kernel_rfl) (by kernel_rfl) (fun _ _ _ _ h => h) hS2 (by decide) (fun w hS => R.assign rfl) ?_
              refine AH.done (by kernel_rfl) ?_
              have hans : ansT t M = true := by unfold ansT; simp [h1, h2, h3.1, h3.2]
              refine EW.next ?_
              refine CW.ret ?_
              exact EW.retCT (.inl rfl) rfl rfl rfl (cs := M.cells (.slice Aa M.ans.length ca) (.slice Ab M.auth.length cb)) Tryd.underlying33 rfl sz33 (fun j u hj => cell_at hR (by rw [List.getElem?_toArray]; exact hj)) ⟨hC, by show MatchRes _ _ _ _ _ _ (some M) _ _; unfold MatchRes; simp only; rw [if_pos (by unfold passT; rw [decide_eq_true (show link = t.link by omega), decide_eq_true (show gen = t.gen by omega), decide_eq_true (show port = t.port by omega)]; simp [*])]; exact ⟨_, by rw [show ansT t M = _ from hans], _, _, rfl, hva.kept hC2 (fun k hk e => by have := hfa k hk; omega), hvb.kept hC2 (fun k hk e => by have := hfb k hk; omega), fun k hk => by have := hfa k hk; have := hc13.size; omega, fun k hk => by have := hfb k hk; have := hc13.size; omega⟩⟩
end Go.Proofs.YthcpjcgjmdfpjaaDoor

namespace Go.Proofs.YthcpjcgjmdfpjaaDoor
open Go Go.RowKit
set_option maxRecDepth 100000
set_option maxHeartbeats 4000000

/-- Are they the same? -/
noncomputable def sameM (a b : Msg) : Bool := @decide (a = b) (Classical.propDecidable _)
theorem sameM_no {a b : Msg} (h : ¬ a = b) : sameM a b = false := by unfold sameM; simp [h]
theorem sameM_self (a : Msg) : sameM a a = true := by unfold sameM; simp
theorem sameM_eq {a b : Msg} (h : sameM a b = true) : a = b := by unfold sameM at h; simpa using h
theorem sameM_yes {a b : Msg} (h1 : a.id = b.id) (h2 : a.reply = b.reply) (h3 : a.trunc = b.trunc) (h4 : a.recur = b.recur) (h5 : a.code = b.code) (h6 : a.qname = b.qname ∧ a.qtype = b.qtype) (h7 : a.ans = b.ans) (h8 : a.auth = b.auth) : sameM a b = true := by
  have : a = b := by
    cases a; cases b
    simp only at h1 h2 h3 h4 h5 h6 h7 h8
    obtain ⟨h6, h9⟩ := h6
    subst h1 h2 h3 h4 h5 h6 h7 h8 h9
    rfl
  rw [this]; exact sameM_self b
theorem R.neqBD {l : Env} {w : World} {x y : Operand} {ty : TypeId} {a b : Bool} (hx : ev l x = some (.bool a)) (hy : ev l y = some (.bool b)) : Runs Tryd.prog l (.binOp .neq 4 x y ty) w (.bool (decide (¬ a = b))) w :=
  R.neqB hx hy (by cases a <;> cases b <;> rfl)
theorem R.neq25D {l : Env} {w : World} {x y : Operand} {ty : TypeId} {a b : List UInt8} {m n : Int} (hx : ev l x = some (.agg #[sv a, .int .i64 m])) (hy : ev l y = some (.agg #[sv b, .int .i64 n])) : Runs Tryd.prog l (.binOp .neq 25 x y ty) w (.bool (decide (¬ (a = b ∧ m = n)))) w :=
  R.neq25 hx hy (by by_cases h : a = b ∧ m = n <;> simp [h])
theorem take_next {α : Type} {p q : List α} {j : Nat} {x y : α} (h : p.take j = q.take j) (hx : p[j]? = some x) (hy : q[j]? = some y) (e : x = y) : p.take (j + 1) = q.take (j + 1) := by
  rw [List.take_add_one, List.take_add_one, h, hx, hy, e]
theorem same_any (a b : Msg) (va vb : Value) (w0 : World) (ha : MV w0 va a) (hb : MV w0 vb b) (hn1 : a.ans.length ≤ 1099511627776) (hn2 : a.auth.length ≤ 1099511627776) :
    Calls Tryd.prog 25 #[va, vb] w0 fun e w' => e = .returned (.bool (sameM a b)) ∧ Chg (fun _ => False) w0 w' := by
  obtain ⟨ua, ub, rfl, hAa, hBa⟩ := ha
  obtain ⟨uc, ud, rfl, hAb, hBb⟩ := hb
  obtain ⟨Aa, ca, rfl, _⟩ := hAa.form
  obtain ⟨Ba, da, rfl, _⟩ := hBa.form
  obtain ⟨Ab, cb, rfl, _⟩ := hAb.form
  obtain ⟨Bb, db, rfl, _⟩ := hBb.form
  refine calls_cw (args := [.agg (a.cells (.slice Aa a.ans.length ca) (.slice Ba a.auth.length da)).toArray, .agg (b.cells (.slice Ab b.ans.length cb) (.slice Bb b.auth.length db)).toArray]) Tryd.func25 rfl rfl ?_
  show CW _ _ _ 101 [(0, .agg (a.cells (.slice Aa a.ans.length ca) (.slice Ba a.auth.length da)).toArray), (1, .agg (b.cells (.slice Ab b.ans.length cb) (.slice Bb b.auth.length db)).toArray)] w0
  refine CW.rseq ?_
  refine WL.eff rfl (OP.box (by decide) rfl ?_)
  intro w1 hc1 hs1 hA0
  obtain ⟨ba, he_ba⟩ : ∃ q, q = w0.heap.size := ⟨_, rfl⟩
  rw [← he_ba] at hA0 ⊢
  have hA := hA0
  refine WL.eff rfl (OP.box (by decide) rfl ?_)
  intro w2 hc2 hs2 hB0
  obtain ⟨bb, he_bb⟩ : ∃ q, q = w1.heap.size := ⟨_, rfl⟩
  rw [← he_bb] at hB0 ⊢
  have hB := hB0
  have hA := hc2.at hA (fun e => e)
  have hC := hc1.trans hc2
  have hAa := hAa.kept hC (fun _ _ e => e)
  have hBa := hBa.kept hC (fun _ _ e => e)
  have hAb := hAb.kept hC (fun _ _ e => e)
  have hBb := hBb.kept hC (fun _ _ e => e)
  refine WL.op (by decide) (R.assign rfl) ?_
  refine WL.next ?_
  refine CW.seq ?_
  refine CW.rseq ?_
  refine WL.op (by decide) (FA33_0 rfl) ?_
  refine WL.op (by decide) (R.load Tryd.underlying3 rfl rfl (cell_at hA rfl)) ?_
  refine WL.op (by decide) (FA33_0 rfl) ?_
  refine WL.op (by decide) (R.load Tryd.underlying3 rfl rfl (cell_at hB rfl)) ?_
  refine WL.neqS (by decide) rfl rfl (fun h1 => ?_) (fun h1 => ?_)
  · skip
    refine WL.op (by decide) (R.move rfl) ?_
    refine WL.pass (by decide) rfl rfl rfl ?_
    refine WL.pass (by decide) rfl rfl rfl ?_
    refine WL.pass (by decide) rfl rfl rfl ?_
    refine WL.pass (by decide) rfl rfl rfl ?_
    refine WL.pass (by decide) rfl rfl rfl ?_
    refine WL.op (by decide) (R.pickT rfl rfl) ?_
    refine WL.op (by decide) (R.move rfl) ?_
    refine WL.pass (by decide) rfl rfl rfl ?_
    refine WL.pass (by decide) rfl rfl rfl ?_
    refine WL.pass (by decide) rfl rfl rfl ?_
    refine WL.pass (by decide) rfl rfl rfl ?_
    refine WL.pass (by decide) rfl rfl rfl ?_
    refine WL.op (by decide) (R.pickT rfl rfl) ?_
    refine WL.op (by decide) (R.move rfl) ?_
    refine WL.pass (by decide) rfl rfl rfl ?_
    refine WL.pass (by decide) rfl rfl rfl ?_
    refine WL.pass (by decide) rfl rfl rfl ?_
    refine WL.pass (by decide) rfl rfl rfl ?_
    refine WL.pass (by decide) rfl rfl rfl ?_
    refine WL.op (by decide) (R.pickT rfl rfl) ?_
    refine WL.op (by decide) (R.move rfl) ?_
    refine WL.pass (by decide) rfl rfl rfl ?_
    refine WL.pass (by decide) rfl rfl rfl ?_
    refine WL.pass (by decide) rfl rfl rfl ?_
    refine WL.pass (by decide) rfl rfl rfl ?_
    refine WL.pass (by decide) rfl rfl rfl ?_
    refine WL.op (by decide) (R.pickT rfl rfl) ?_
    refine WL.op (by decide) (R.move rfl) ?_
    refine WL.pass (by decide) rfl rfl rfl ?_
    refine WL.pass (by decide) rfl rfl rfl ?_
    refine WL.pass (by decide) rfl rfl rfl ?_
    refine WL.pass (by decide) rfl rfl rfl ?_
    refine WL.pass (by decide) rfl rfl rfl ?_
    refine WL.op (by decide) (R.pickT rfl rfl) ?_
    refine WL.op (by decide) (R.move rfl) ?_
    refine WL.pass (by decide) rfl rfl rfl ?_
    refine WL.pass (by decide) rfl rfl rfl ?_
    refine WL.pass (by decide) rfl rfl rfl ?_
    refine WL.pass (by decide) rfl rfl rfl ?_
    refine WL.pass (by decide) rfl rfl rfl ?_
    refine WL.pass (by decide) rfl rfl rfl ?_
    refine WL.pass (by decide) rfl rfl rfl ?_
    refine WL.op (by decide) (R.pickT rfl rfl) ?_
    refine WL.op (by decide) (R.move rfl) ?_
    refine WL.pass (by decide) rfl rfl rfl ?_
    refine WL.pass (by decide) rfl rfl rfl ?_
    refine WL.pass (by decide) rfl rfl rfl ?_
    refine WL.pass (by decide) rfl rfl rfl ?_
    refine WL.pass (by decide) rfl rfl rfl ?_
    refine WL.pass (by decide) rfl rfl rfl ?_
    refine WL.pass (by decide) rfl rfl rfl ?_
    refine WL.op (by decide) (R.pickT rfl rfl) ?_
    refine WL.next ?_
    refine CW.condT rfl ?_
    refine CW.rseq ?_
    refine WL.op (by decide) (R.assign rfl) ?_
    refine WL.next ?_
    refine CW.ret ?_
    refine EW.thenRet ?_
    refine EW.ret1 (.inl rfl) rfl rfl ⟨congrArg (fun b => Ending.returned (.bool b)) (sameM_no (fun e => ?_)).symm, hC⟩
    subst e
    simp_all
  · skip
    refine WL.op (by decide) (R.move rfl) ?_
    refine WL.gop (by decide) rfl rfl rfl (FA33_1 rfl) ?_
    refine WL.gop (by decide) rfl rfl rfl (R.load Tryd.underlying4 rfl rfl (cell_at hA rfl)) ?_
    refine WL.gop (by decide) rfl rfl rfl (FA33_1 rfl) ?_
    refine WL.gop (by decide) rfl rfl rfl (R.load Tryd.underlying4 rfl rfl (cell_at hB rfl)) ?_
    refine WL.gsplit _ (by decide) rfl rfl rfl (R.neqBD (a := a.reply) (b := b.reply) rfl rfl) (fun h2 => ?_) (fun h2 => ?_)
    · skip
      refine WL.op (by decide) (R.pickF rfl rfl) ?_
      refine WL.op (by decide) (R.move rfl) ?_
      refine WL.pass (by decide) rfl rfl rfl ?_
      refine WL.pass (by decide) rfl rfl rfl ?_
      refine WL.pass (by decide) rfl rfl rfl ?_
      refine WL.pass (by decide) rfl rfl rfl ?_
      refine WL.pass (by decide) rfl rfl rfl ?_
      refine WL.op (by decide) (R.pickT rfl rfl) ?_
      refine WL.op (by decide) (R.move rfl) ?_
      refine WL.pass (by decide) rfl rfl rfl ?_
      refine WL.pass (by decide) rfl rfl rfl ?_
      refine WL.pass (by decide) rfl rfl rfl ?_
      refine WL.pass (by decide) rfl rfl rfl ?_
      refine WL.pass (by decide) rfl rfl rfl ?_
      refine WL.op (by decide) (R.pickT rfl rfl) ?_
      refine WL.op (by decide) (R.move rfl) ?_
      refine WL.pass (by decide) rfl rfl rfl ?_
      refine WL.pass (by decide) rfl rfl rfl ?_
      refine WL.pass (by decide) rfl rfl rfl ?_
      refine WL.pass (by decide) rfl rfl rfl ?_
      refine WL.pass (by decide) rfl rfl rfl ?_
      refine WL.op (by decide) (R.pickT rfl rfl) ?_
      refine WL.op (by decide) (R.move rfl) ?_
      refine WL.pass (by decide) rfl rfl rfl ?_
      refine WL.pass (by decide) rfl rfl rfl ?_
      refine WL.pass (by decide) rfl rfl rfl ?_
      refine WL.pass (by decide) rfl rfl rfl ?_
      refine WL.pass (by decide) rfl rfl rfl ?_
      refine WL.op (by decide) (R.pickT rfl rfl) ?_
      refine WL.op (by decide) (R.move rfl) ?_
      refine WL.pass (by decide) rfl rfl rfl ?_
      refine WL.pass (by decide) rfl rfl rfl ?_
      refine WL.pass (by decide) rfl rfl rfl ?_
      refine WL.pass (by decide) rfl rfl rfl ?_
      refine WL.pass (by decide) rfl rfl rfl ?_
      refine WL.pass (by decide) rfl rfl rfl ?_
      refine WL.pass (by decide) rfl rfl rfl ?_
      refine WL.op (by decide) (R.pickT rfl rfl) ?_
      refine WL.op (by decide) (R.move rfl) ?_
      refine WL.pass (by decide) rfl rfl rfl ?_
      refine WL.pass (by decide) rfl rfl rfl ?_
      refine WL.pass (by decide) rfl rfl rfl ?_
      refine WL.pass (by decide) rfl rfl rfl ?_
      refine WL.pass (by decide) rfl rfl rfl ?_
      refine WL.pass (by decide) rfl rfl rfl ?_
      refine WL.pass (by decide) rfl rfl rfl ?_
      refine WL.op (by decide) (R.pickT rfl rfl) ?_
      refine WL.next ?_
      refine CW.condT rfl ?_
      refine CW.rseq ?_
      refine WL.op (by decide) (R.assign rfl) ?_
      refine WL.next ?_
      refine CW.ret ?_
      refine EW.thenRet ?_
      refine EW.ret1 (.inl rfl) rfl rfl ⟨congrArg (fun b => Ending.returned (.bool b)) (sameM_no (fun e => ?_)).symm, hC⟩
      subst e
      simp_all
    · skip
      refine WL.op (by decide) (R.pickF rfl rfl) ?_
      refine WL.op (by decide) (R.move rfl) ?_
      refine WL.gop (by decide) rfl rfl rfl (FA33_2 rfl) ?_
      refine WL.gop (by decide) rfl rfl rfl (R.load Tryd.underlying4 rfl rfl (cell_at hA rfl)) ?_
      refine WL.gop (by decide) rfl rfl rfl (FA33_2 rfl) ?_
      refine WL.gop (by decide) rfl rfl rfl (R.load Tryd.underlying4 rfl rfl (cell_at hB rfl)) ?_
      refine WL.gsplit _ (by decide) rfl rfl rfl (R.neqBD (a := a.trunc) (b := b.trunc) rfl rfl) (fun h3 => ?_) (fun h3 => ?_)
      · skip
        refine WL.op (by decide) (R.pickF rfl rfl) ?_
        refine WL.op (by decide) (R.move rfl) ?_
        refine WL.pass (by decide) rfl rfl rfl ?_
        refine WL.pass (by decide) rfl rfl rfl ?_
        refine WL.pass (by decide) rfl rfl rfl ?_
        refine WL.pass (by decide) rfl rfl rfl ?_
        refine WL.pass (by decide) rfl rfl rfl ?_
        refine WL.op (by decide) (R.pickT rfl rfl) ?_
        refine WL.op (by decide) (R.move rfl) ?_
        refine WL.pass (by decide) rfl rfl rfl ?_
        refine WL.pass (by decide) rfl rfl rfl ?_
        refine WL.pass (by decide) rfl rfl rfl ?_
        refine WL.pass (by decide) rfl rfl rfl ?_
        refine WL.pass (by decide) rfl rfl rfl ?_
        refine WL.op (by decide) (R.pickT rfl rfl) ?_
        refine WL.op (by decide) (R.move rfl) ?_
        refine WL.pass (by decide) rfl rfl rfl ?_
        refine WL.pass (by decide) rfl rfl rfl ?_
        refine WL.pass (by decide) rfl rfl rfl ?_
        refine WL.pass (by decide) rfl rfl rfl ?_
        refine WL.pass (by decide) rfl rfl rfl ?_
        refine WL.op (by decide) (R.pickT rfl rfl) ?_
        refine WL.op (by decide) (R.move rfl) ?_
        refine WL.pass (by decide) rfl rfl rfl ?_
        refine WL.pass (by decide) rfl rfl rfl ?_
        refine WL.pass (by decide) rfl rfl rfl ?_
        refine WL.pass (by decide) rfl rfl rfl ?_
        refine WL.pass (by decide) rfl rfl rfl ?_
        refine WL.pass (by decide) rfl rfl rfl ?_
        refine WL.pass (by decide) rfl rfl rfl ?_
        refine WL.op (by decide) (R.pickT rfl rfl) ?_
        refine WL.op (by decide) (R.move rfl) ?_
        refine WL.pass (by decide) rfl rfl rfl ?_
        refine WL.pass (by decide) rfl rfl rfl ?_
        refine WL.pass (by decide) rfl rfl rfl ?_
        refine WL.pass (by decide) rfl rfl rfl ?_
        refine WL.pass (by decide) rfl rfl rfl ?_
        refine WL.pass (by decide) rfl rfl rfl ?_
        refine WL.pass (by decide) rfl rfl rfl ?_
        refine WL.op (by decide) (R.pickT rfl rfl) ?_
        refine WL.next ?_
        refine CW.condT rfl ?_
        refine CW.rseq ?_
        refine WL.op (by decide) (R.assign rfl) ?_
        refine WL.next ?_
        refine CW.ret ?_
        refine EW.thenRet ?_
        refine EW.ret1 (.inl rfl) rfl rfl ⟨congrArg (fun b => Ending.returned (.bool b)) (sameM_no (fun e => ?_)).symm, hC⟩
        subst e
        simp_all
      · skip
        refine WL.op (by decide) (R.pickF rfl rfl) ?_
        refine WL.op (by decide) (R.move rfl) ?_
        refine WL.gop (by decide) rfl rfl rfl (FA33_3 rfl) ?_
        refine WL.gop (by decide) rfl rfl rfl (R.load Tryd.underlying4 rfl rfl (cell_at hA rfl)) ?_
        refine WL.gop (by decide) rfl rfl rfl (FA33_3 rfl) ?_
        refine WL.gop (by decide) rfl rfl rfl (R.load Tryd.underlying4 rfl rfl (cell_at hB rfl)) ?_
        refine WL.gsplit _ (by decide) rfl rfl rfl (R.neqBD (a := a.recur) (b := b.recur) rfl rfl) (fun h4 => ?_) (fun h4 => ?_)
        · skip
          refine WL.op (by decide) (R.pickF rfl rfl) ?_
          refine WL.op (by decide) (R.move rfl) ?_
          refine WL.pass (by decide) rfl rfl rfl ?_
          refine WL.pass (by decide) rfl rfl rfl ?_
          refine WL.pass (by decide) rfl rfl rfl ?_
          refine WL.pass (by decide) rfl rfl rfl ?_
          refine WL.pass (by decide) rfl rfl rfl ?_
          refine WL.op (by decide) (R.pickT rfl rfl) ?_
          refine WL.op (by decide) (R.move rfl) ?_
          refine WL.pass (by decide) rfl rfl rfl ?_
          refine WL.pass (by decide) rfl rfl rfl ?_
          refine WL.pass (by decide) rfl rfl rfl ?_
          refine WL.pass (by decide) rfl rfl rfl ?_
          refine WL.pass (by decide) rfl rfl rfl ?_
          refine WL.op (by decide) (R.pickT rfl rfl) ?_
          refine WL.op (by decide) (R.move rfl) ?_
          refine WL.pass (by decide) rfl rfl rfl ?_
          refine WL.pass (by decide) rfl rfl rfl ?_
          refine WL.pass (by decide) rfl rfl rfl ?_
          refine WL.pass (by decide) rfl rfl rfl ?_
          refine WL.pass (by decide) rfl rfl rfl ?_
          refine WL.pass (by decide) rfl rfl rfl ?_
          refine WL.pass (by decide) rfl rfl rfl ?_
          refine WL.op (by decide) (R.pickT rfl rfl) ?_
          refine WL.op (by decide) (R.move rfl) ?_
          refine WL.pass (by decide) rfl rfl rfl ?_
          refine WL.pass (by decide) rfl rfl rfl ?_
          refine WL.pass (by decide) rfl rfl rfl ?_
          refine WL.pass (by decide) rfl rfl rfl ?_
          refine WL.pass (by decide) rfl rfl rfl ?_
          refine WL.pass (by decide) rfl rfl rfl ?_
          refine WL.pass (by decide) rfl rfl rfl ?_
          refine WL.op (by decide) (R.pickT rfl rfl) ?_
          refine WL.next ?_
          refine CW.condT rfl ?_
          refine CW.rseq ?_
          refine WL.op (by decide) (R.assign rfl) ?_
          refine WL.next ?_
          refine CW.ret ?_
          refine EW.thenRet ?_
          refine EW.ret1 (.inl rfl) rfl rfl ⟨congrArg (fun b => Ending.returned (.bool b)) (sameM_no (fun e => ?_)).symm, hC⟩
          subst e
          simp_all
        · skip
          refine WL.op (by decide) (R.pickF rfl rfl) ?_
          refine WL.op (by decide) (R.move rfl) ?_
          refine WL.gop (by decide) rfl rfl rfl (FA33_4 rfl) ?_
          refine WL.gop (by decide) rfl rfl rfl (R.load Tryd.underlying3 rfl rfl (cell_at hA rfl)) ?_
          refine WL.gop (by decide) rfl rfl rfl (FA33_4 rfl) ?_
          refine WL.gop (by decide) rfl rfl rfl (R.load Tryd.underlying3 rfl rfl (cell_at hB rfl)) ?_
          refine WL.gsplit _ (by decide) rfl rfl rfl (R.neqD rfl rfl) (fun h5 => ?_) (fun h5 => ?_)
          · skip
            refine WL.op (by decide) (R.pickF rfl rfl) ?_
            refine WL.op (by decide) (R.move rfl) ?_
            refine WL.pass (by decide) rfl rfl rfl ?_
            refine WL.pass (by decide) rfl rfl rfl ?_
            refine WL.pass (by decide) rfl rfl rfl ?_
            refine WL.pass (by decide) rfl rfl rfl ?_
            refine WL.pass (by decide) rfl rfl rfl ?_
            refine WL.op (by decide) (R.pickT rfl rfl) ?_
            refine WL.op (by decide) (R.move rfl) ?_
            refine WL.pass (by decide) rfl rfl rfl ?_
            refine WL.pass (by decide) rfl rfl rfl ?_
            refine WL.pass (by decide) rfl rfl rfl ?_
            refine WL.pass (by decide) rfl rfl rfl ?_
            refine WL.pass (by decide) rfl rfl rfl ?_
            refine WL.pass (by decide) rfl rfl rfl ?_
            refine WL.pass (by decide) rfl rfl rfl ?_
            refine WL.op (by decide) (R.pickT rfl rfl) ?_
            refine WL.op (by decide) (R.move rfl) ?_
            refine WL.pass (by decide) rfl rfl rfl ?_
            refine WL.pass (by decide) rfl rfl rfl ?_
            refine WL.pass (by decide) rfl rfl rfl ?_
            refine WL.pass (by decide) rfl rfl rfl ?_
            refine WL.pass (by decide) rfl rfl rfl ?_
            refine WL.pass (by decide) rfl rfl rfl ?_
            refine WL.pass (by decide) rfl rfl rfl ?_
            refine WL.op (by decide) (R.pickT rfl rfl) ?_
            refine WL.next ?_
            refine CW.condT rfl ?_
            refine CW.rseq ?_
            refine WL.op (by decide) (R.assign rfl) ?_
            refine WL.next ?_
            refine CW.ret ?_
            refine EW.thenRet ?_
            refine EW.ret1 (.inl rfl) rfl rfl ⟨congrArg (fun b => Ending.returned (.bool b)) (sameM_no (fun e => ?_)).symm, hC⟩
            subst e
            simp_all
          · skip
            refine WL.op (by decide) (R.pickF rfl rfl) ?_
            refine WL.op (by decide) (R.move rfl) ?_
            refine WL.gop (by decide) rfl rfl rfl (FA33_5 rfl) ?_
            refine WL.gop (by decide) rfl rfl rfl (R.loadAgg1 (cs := [sv a.qname, .int .i64 a.qtype]) Tryd.underlying25 rfl sz25 rfl (fun j u hj => cell_at hA (by match j, hj with | 0, hj => exact hj | 1, hj => exact hj))) ?_
            refine WL.gop (by decide) rfl rfl rfl (FA33_5 rfl) ?_
            refine WL.gop (by decide) rfl rfl rfl (R.loadAgg1 (cs := [sv b.qname, .int .i64 b.qtype]) Tryd.underlying25 rfl sz25 rfl (fun j u hj => cell_at hB (by match j, hj with | 0, hj => exact hj | 1, hj => exact hj))) ?_
            refine WL.gsplit _ (by decide) rfl rfl rfl (R.neq25D (a := a.qname) (b := b.qname) (m := a.qtype) (n := b.qtype) rfl rfl) (fun h6 => ?_) (fun h6 => ?_)
            · skip
              refine WL.op (by decide) (R.pickF rfl rfl) ?_
              refine WL.op (by decide) (R.move rfl) ?_
              refine WL.pass (by decide) rfl rfl rfl ?_
              refine WL.pass (by decide) rfl rfl rfl ?_
              refine WL.pass (by decide) rfl rfl rfl ?_
              refine WL.pass (by decide) rfl rfl rfl ?_
              refine WL.pass (by decide) rfl rfl rfl ?_
              refine WL.pass (by decide) rfl rfl rfl ?_
              refine WL.pass (by decide) rfl rfl rfl ?_
              refine WL.op (by decide) (R.pickT rfl rfl) ?_
              refine WL.op (by decide) (R.move rfl) ?_
              refine WL.pass (by decide) rfl rfl rfl ?_
              refine WL.pass (by decide) rfl rfl rfl ?_
              refine WL.pass (by decide) rfl rfl rfl ?_
              refine WL.pass (by decide) rfl rfl rfl ?_
              refine WL.pass (by decide) rfl rfl rfl ?_
              refine WL.pass (by decide) rfl rfl rfl ?_
              refine WL.pass (by decide) rfl rfl rfl ?_
              refine WL.op (by decide) (R.pickT rfl rfl) ?_
              refine WL.next ?_
              refine CW.condT rfl ?_
              refine CW.rseq ?_
              refine WL.op (by decide) (R.assign rfl) ?_
              refine WL.next ?_
              refine CW.ret ?_
              refine EW.thenRet ?_
              refine EW.ret1 (.inl rfl) rfl rfl ⟨congrArg (fun b => Ending.returned (.bool b)) (sameM_no (fun e => ?_)).symm, hC⟩
              subst e
              simp_all
            · skip
              refine WL.op (by decide) (R.pickF rfl rfl) ?_
              refine WL.op (by decide) (R.move rfl) ?_
              refine WL.gop (by decide) rfl rfl rfl (FA33_6 rfl) ?_
              refine WL.gop (by decide) rfl rfl rfl (R.load Tryd.underlying31 rfl rfl (cell_at hA rfl)) ?_
              refine WL.gop (by decide) rfl rfl rfl (R.lenSlice rfl Tryd.underlying31 rfl) ?_
              refine WL.gop (by decide) rfl rfl rfl (FA33_6 rfl) ?_
              refine WL.gop (by decide) rfl rfl rfl (R.load Tryd.underlying31 rfl rfl (cell_at hB rfl)) ?_
              refine WL.gop (by decide) rfl rfl rfl (R.lenSlice rfl Tryd.underlying31 rfl) ?_
              refine WL.gsplit _ (by decide) rfl rfl rfl (R.neqD rfl rfl) (fun h7 => ?_) (fun h7 => ?_)
              · skip
                refine WL.op (by decide) (R.pickF rfl rfl) ?_
                refine WL.op (by decide) (R.move rfl) ?_
                refine WL.pass (by decide) rfl rfl rfl ?_
                refine WL.pass (by decide) rfl rfl rfl ?_
                refine WL.pass (by decide) rfl rfl rfl ?_
                refine WL.pass (by decide) rfl rfl rfl ?_
                refine WL.pass (by decide) rfl rfl rfl ?_
                refine WL.pass (by decide) rfl rfl rfl ?_
                refine WL.pass (by decide) rfl rfl rfl ?_
                refine WL.op (by decide) (R.pickT rfl rfl) ?_
                refine WL.next ?_
                refine CW.condT rfl ?_
                refine CW.rseq ?_
                refine WL.op (by decide) (R.assign rfl) ?_
                refine WL.next ?_
                refine CW.ret ?_
                refine EW.thenRet ?_
                refine EW.ret1 (.inl rfl) rfl rfl ⟨congrArg (fun b => Ending.returned (.bool b)) (sameM_no (fun e => ?_)).symm, hC⟩
                subst e
                simp_all
              · skip
                refine WL.op (by decide) (R.pickF rfl rfl) ?_
                refine WL.op (by decide) (R.move rfl) ?_
                refine WL.gop (by decide) rfl rfl rfl (FA33_7 rfl) ?_
                refine WL.gop (by decide) rfl rfl rfl (R.load Tryd.underlying31 rfl rfl (cell_at hA rfl)) ?_
                refine WL.gop (by decide) rfl rfl rfl (R.lenSlice rfl Tryd.underlying31 rfl) ?_
                refine WL.gop (by decide) rfl rfl rfl (FA33_7 rfl) ?_
                refine WL.gop (by decide) rfl rfl rfl (R.load Tryd.underlying31 rfl rfl (cell_at hB rfl)) ?_
                refine WL.gop (by decide) rfl rfl rfl (R.lenSlice rfl Tryd.underlying31 rfl) ?_
                refine WL.gsplit _ (by decide) rfl rfl rfl (R.neqD rfl rfl) (fun h8 => ?_) (fun h8 => ?_)
                · skip
                  refine WL.op (by decide) (R.pickF rfl rfl) ?_
                  refine WL.next ?_
                  refine CW.condT rfl ?_
                  refine CW.rseq ?_
                  refine WL.op (by decide) (R.assign rfl) ?_
                  refine WL.next ?_
                  refine CW.ret ?_
                  refine EW.thenRet ?_
                  refine EW.ret1 (.inl rfl) rfl rfl ⟨congrArg (fun b => Ending.returned (.bool b)) (sameM_no (fun e => ?_)).symm, hC⟩
                  subst e
                  simp_all
                · skip
                  refine WL.op (by decide) (R.pickF rfl rfl) ?_
                  refine WL.next ?_
                  refine CW.condF rfl ?_
                  refine CW.skip ?_
                  refine EW.next ?_
                  refine CW.seq ?_
                  refine CW.rseq ?_
                  refine WL.op (by decide) (FA33_6 rfl) ?_
                  refine WL.op (by decide) (R.load Tryd.underlying31 rfl rfl (cell_at hA rfl)) ?_
                  refine WL.op (by decide) (R.lenSlice rfl Tryd.underlying31 rfl) ?_
                  refine WL.op (by decide) (R.move rfl) ?_
                  refine WL.next ?_
                  refine CW.block ?_
                  refine CW.loopK [2, 3, 67, 68] (fun k l wr => Chg (fun _ => False) w0 wr ∧ wr.heap[ba]? = some (.cells (a.cells (.slice Aa a.ans.length ca) (.slice Ba a.auth.length da)).toArray 33 (0, 0)) ∧ wr.heap[bb]? = some (.cells (b.cells (.slice Ab b.ans.length cb) (.slice Bb b.auth.length db)).toArray 33 (0, 0)) ∧ RSl wr (.slice Aa a.ans.length ca) a.ans ∧ RSl wr (.slice Ba a.auth.length da) a.auth ∧ RSl wr (.slice Ab b.ans.length cb) b.ans ∧ RSl wr (.slice Bb b.auth.length db) b.auth ∧ ∃ (j : Nat) (jj : Int), j + k = a.ans.length ∧ jj = (j : Int) ∧ l = [(2, .pointer (some ⟨ba, 0, none⟩)), (3, .pointer (some ⟨bb, 0, none⟩)), (67, .int .i64 a.ans.length), (68, .int .i64 jj)] ∧ a.ans.take j = b.ans.take j) (a.ans.length) ?_ ?_
                  · exact ⟨hC, hA, hB, hAa, hBa, hAb, hBb, 0, 0, by omega, rfl, rfl, rfl⟩
                  · rintro k l wr ⟨hC, hA, hB, hAa, hBa, hAb, hBb, j, jj, hk, rfl, rfl, htk⟩
                    refine CW.rseq ?_
                    refine WL.lssS (by decide) rfl rfl (fun h9 => ?_) (fun h9 => ?_)
                    · skip
                      refine WL.next ?_
                      refine CW.seq ?_
                      refine CW.condT rfl ?_
                      refine CW.skip ?_
                      refine EW.next ?_
                      refine CW.seq ?_
                      refine CW.block ?_
                      refine CW.rseq ?_
                      refine WL.op (by decide) (R.move rfl) ?_
                      refine WL.op (by decide) (R.assign rfl) ?_
                      refine WL.next ?_
                      refine CW.seq ?_
                      obtain ⟨x, hx⟩ : ∃ x, a.ans[j]? = some x := ⟨a.ans[j]'(by omega), List.getElem?_eq_getElem _⟩
                      obtain ⟨y, hy⟩ : ∃ y, b.ans[j]? = some y := ⟨b.ans[j]'(by omega), List.getElem?_eq_getElem _⟩
                      obtain ⟨hx16, _, gx, ox, hgx, hcx⟩ := hAa.at hx
                      obtain ⟨hy16, _, gy, oy, hgy, hcy⟩ := hAb.at hy
                      refine CW.draw (fun w => w.heap[ba]? = some (.cells (a.cells (.slice Aa a.ans.length ca) (.slice Ba a.auth.length da)).toArray 33 (0, 0)) ∧ w.heap[bb]? = some (.cells (b.cells (.slice Ab b.ans.length cb) (.slice Bb b.auth.length db)).toArray 33 (0, 0)) ∧ (∀ i u, x.cells[i]? = some u → w.cell? ⟨gx, ox + j * 21 + i, none⟩ = some u) ∧ (∀ i u, y.cells[i]? = some u → w.cell? ⟨gy, oy + j * 21 + i, none⟩ = some u)) (by kernel_rfl) ?_
                      have hC := hC.trans (Chg.drew (fun _ => False) _)
                      have hA := (Chg.drew (fun _ => False) _).at hA (fun e => e)
                      have hB := (Chg.drew (fun _ => False) _).at hB (fun e => e)
                      have hAa := hAa.kept (Chg.drew (fun _ => False) _) (fun _ _ e => e)
                      have hBa := hBa.kept (Chg.drew (fun _ => False) _) (fun _ _ e => e)
                      have hAb := hAb.kept (Chg.drew (fun _ => False) _) (fun _ _ e => e)
                      have hBb := hBb.kept (Chg.drew (fun _ => False) _) (fun _ _ e => e)
                      refine AH.take 0 rfl (by kernel_rfl) (by kernel_rfl) (by kernel_rfl) (fun _ _ _ _ h => h) ⟨hA, hB, hcx, hcy⟩ (by decide) (fun w hS => FA33_6 rfl) ?_
                      refine AH.take 1 rfl (by kernel_rfl) (by kernel_rfl) (by kernel_rfl) (fun _ _ _ _ h => h) ⟨hA, hB, hcx, hcy⟩ (by decide) (fun w hS => R.load (v := .slice (some ⟨gx, ox, none⟩) a.ans.length ca) Tryd.underlying31 rfl rfl (cell_at hS.1 (by rw [← hgx]; rfl))) ?_
                      refine AH.take 2 rfl (by kernel_rfl) (by kernel_rfl) (by kernel_rfl) (fun _ _ _ _ h => h) ⟨hA, hB, hcx, hcy⟩ (by decide) (fun w hS => R.move rfl) ?_
                      refine AH.take 3 rfl (by kernel_rfl) (by kernel_rfl) (by kernel_rfl) (fun _ _ _ _ h => h) ⟨hA, hB, hcx, hcy⟩ (by decide) (fun w hS => R.indexAddr1 (i := j) Tryd.underlying31 sz57 rfl rfl rfl (by omega)) ?_
                      refine AH.take 4 rfl (by kernel_rfl) (by kernel_rfl) (by kernel_rfl) (fun _ _ _ _ h => h) ⟨hA, hB, hcx, hcy⟩ (by decide) (fun w hS => R.loadR (r := x) hx16 rfl hS.2.2.1) ?_
                      refine AH.take 5 rfl (by kernel_rfl) (by kernel_rfl) (by kernel_rfl) (fun _ _ _ _ h => h) ⟨hA, hB, hcx, hcy⟩ (by decide) (fun w hS => FA33_6 rfl) ?_
                      refine AH.take 6 rfl (by kernel_rfl) (by kernel_rfl) (by kernel_rfl) (fun _ _ _ _ h => h) ⟨hA, hB, hcx, hcy⟩ (by decide) (fun w hS => R.load (v := .slice (some ⟨gy, oy, none⟩) b.ans.length cb) Tryd.underlying31 rfl rfl (cell_at hS.2.1 (by rw [← hgy]; rfl))) ?_
                      refine AH.take 7 rfl (by kernel_rfl) (by kernel_rfl) (by kernel_rfl) (fun _ _ _ _ h => h) ⟨hA, hB, hcx, hcy⟩ (by decide) (fun w hS => R.move rfl) ?_
                      refine AH.take 8 rfl (by kernel_rfl) (by kernel_rfl) (by kernel_rfl) (fun _ _ _ _ h => h) ⟨hA, hB, hcx, hcy⟩ (by decide) (fun w hS => R.indexAddr1 (i := j) Tryd.underlying31 sz57 rfl rfl rfl (by omega)) ?_
                      refine AH.take 9 rfl (by kernel_rfl) (by kernel_rfl) (by kernel_rfl) (fun _ _ _ _ h => h) ⟨hA, hB, hcx, hcy⟩ (by decide) (fun w hS => R.loadR (r := y) hy16 rfl hS.2.2.2) ?_
                      by_cases h10 : ¬ x = y
                      · skip
                        refine AH.take 10 rfl (by kernel_rfl) (by kernel_rfl) (by kernel_rfl) (fun _ _ _ _ h => h) ⟨hA, hB, hcx, hcy⟩ (by decide) (fun w hS => R.neq57 hx16 hy16 rfl rfl (c := true) (by simp [h10])) ?_
                        refine AH.done (by kernel_rfl) ?_
                        refine EW.next ?_
                        refine CW.condT rfl ?_
                        refine CW.rseq ?_
                        refine WL.op (by decide) (R.assign rfl) ?_
                        refine WL.next ?_
                        refine CW.ret ?_
                        refine EW.inRet ?_
                        refine EW.thenRet ?_
                        refine EW.thenRet ?_
                        refine EW.inRet ?_
                        refine EW.thenRet ?_
                        exact EW.ret1 (.inl rfl) rfl rfl ⟨congrArg (fun b => Ending.returned (.bool b)) (sameM_no (fun e => (show ¬ x = y by assumption) (by subst e; exact Option.some.inj (hx.symm.trans hy)))).symm, hC⟩
                      · skip
                        refine AH.take 10 rfl (by kernel_rfl) (by kernel_rfl) (by kernel_rfl) (fun _ _ _ _ h => h) ⟨hA, hB, hcx, hcy⟩ (by decide) (fun w hS => R.neq57 hx16 hy16 rfl rfl (c := false) (by simpa using h10)) ?_
                        refine AH.done (by kernel_rfl) ?_
                        refine EW.next ?_
                        refine CW.condF rfl ?_
                        refine CW.skip ?_
                        refine EW.inNormal ?_
                        refine EW.next ?_
                        refine CW.region ?_
                        refine WL.op (by decide) (R.add rfl rfl (by omega)) ?_
                        refine WL.op (by decide) (R.move rfl) ?_
                        refine WL.nil ?_
                        exact EW.roundK [2, 3, 67, 68] (k - 1) (by omega) ⟨hC, hA, hB, hAa, hBa, hAb, hBb, j + 1, _, by omega, by omega, rfl, take_next htk hx hy (Classical.byContradiction (fun e => by contradiction))⟩
                    · skip
                      refine WL.next ?_
                      refine CW.seq ?_
                      refine CW.condF rfl ?_
                      refine CW.exit ?_
                      have hans : a.ans = b.ans := by rwa [List.take_of_length_le (by omega), List.take_of_length_le (by omega)] at htk
                      refine EW.thenExit ?_
                      refine EW.thenExit ?_
                      refine EW.inHere ?_
                      refine EW.next ?_
                      refine CW.seq ?_
                      refine CW.rseq ?_
                      refine WL.op (by decide) (FA33_7 rfl) ?_
                      refine WL.op (by decide) (R.load Tryd.underlying31 rfl rfl (cell_at hA rfl)) ?_
                      refine WL.op (by decide) (R.lenSlice rfl Tryd.underlying31 rfl) ?_
                      refine WL.op (by decide) (R.move rfl) ?_
                      refine WL.next ?_
                      refine CW.block ?_
                      refine CW.loopK [2, 3, 85, 86] (fun k l wr => Chg (fun _ => False) w0 wr ∧ wr.heap[ba]? = some (.cells (a.cells (.slice Aa a.ans.length ca) (.slice Ba a.auth.length da)).toArray 33 (0, 0)) ∧ wr.heap[bb]? = some (.cells (b.cells (.slice Ab b.ans.length cb) (.slice Bb b.auth.length db)).toArray 33 (0, 0)) ∧ RSl wr (.slice Aa a.ans.length ca) a.ans ∧ RSl wr (.slice Ba a.auth.length da) a.auth ∧ RSl wr (.slice Ab b.ans.length cb) b.ans ∧ RSl wr (.slice Bb b.auth.length db) b.auth ∧ ∃ (j : Nat) (jj : Int), j + k = a.auth.length ∧ jj = (j : Int) ∧ l = [(2, .pointer (some ⟨ba, 0, none⟩)), (3, .pointer (some ⟨bb, 0, none⟩)), (85, .int .i64 a.auth.length), (86, .int .i64 jj)] ∧ a.auth.take j = b.auth.take j) (a.auth.length) ?_ ?_
                      · exact ⟨hC, hA, hB, hAa, hBa, hAb, hBb, 0, 0, by omega, rfl, rfl, rfl⟩
                      · rintro k l wr ⟨hC, hA, hB, hAa, hBa, hAb, hBb, j, jj, hk, rfl, rfl, htk⟩
                        refine CW.rseq ?_
                        refine WL.lssS (by decide) rfl rfl (fun h11 => ?_) (fun h11 => ?_)
                        · skip
                          refine WL.next ?_
                          refine CW.seq ?_
                          refine CW.condT rfl ?_
                          refine CW.skip ?_
                          refine EW.next ?_
                          refine CW.seq ?_
                          refine CW.block ?_
                          refine CW.rseq ?_
                          refine WL.op (by decide) (R.move rfl) ?_
                          refine WL.op (by decide) (R.assign rfl) ?_
                          refine WL.next ?_
                          refine CW.seq ?_
                          obtain ⟨x, hx⟩ : ∃ x, a.auth[j]? = some x := ⟨a.auth[j]'(by omega), List.getElem?_eq_getElem _⟩
                          obtain ⟨y, hy⟩ : ∃ y, b.auth[j]? = some y := ⟨b.auth[j]'(by omega), List.getElem?_eq_getElem _⟩
                          obtain ⟨hx16, _, gx, ox, hgx, hcx⟩ := hBa.at hx
                          obtain ⟨hy16, _, gy, oy, hgy, hcy⟩ := hBb.at hy
                          refine CW.draw (fun w => w.heap[ba]? = some (.cells (a.cells (.slice Aa a.ans.length ca) (.slice Ba a.auth.length da)).toArray 33 (0, 0)) ∧ w.heap[bb]? = some (.cells (b.cells (.slice Ab b.ans.length cb) (.slice Bb b.auth.length db)).toArray 33 (0, 0)) ∧ (∀ i u, x.cells[i]? = some u → w.cell? ⟨gx, ox + j * 21 + i, none⟩ = some u) ∧ (∀ i u, y.cells[i]? = some u → w.cell? ⟨gy, oy + j * 21 + i, none⟩ = some u)) (by kernel_rfl) ?_
                          have hC := hC.trans (Chg.drew (fun _ => False) _)
                          have hA := (Chg.drew (fun _ => False) _).at hA (fun e => e)
                          have hB := (Chg.drew (fun _ => False) _).at hB (fun e => e)
                          have hAa := hAa.kept (Chg.drew (fun _ => False) _) (fun _ _ e => e)
                          have hBa := hBa.kept (Chg.drew (fun _ => False) _) (fun _ _ e => e)
                          have hAb := hAb.kept (Chg.drew (fun _ => False) _) (fun _ _ e => e)
                          have hBb := hBb.kept (Chg.drew (fun _ => False) _) (fun _ _ e => e)
                          refine AH.take 0 rfl (by kernel_rfl) (by kernel_rfl) (by kernel_rfl) (fun _ _ _ _ h => h) ⟨hA, hB, hcx, hcy⟩ (by decide) (fun w hS => FA33_7 rfl) ?_
                          refine AH.take 1 rfl (by kernel_rfl) (by kernel_rfl) (by kernel_rfl) (fun _ _ _ _ h => h) ⟨hA, hB, hcx, hcy⟩ (by decide) (fun w hS => R.load (v := .slice (some ⟨gx, ox, none⟩) a.auth.length da) Tryd.underlying31 rfl rfl (cell_at hS.1 (by rw [← hgx]; rfl))) ?_
                          refine AH.take 2 rfl (by kernel_rfl) (by kernel_rfl) (by kernel_rfl) (fun _ _ _ _ h => h) ⟨hA, hB, hcx, hcy⟩ (by decide) (fun w hS => R.move rfl) ?_
                          refine AH.take 3 rfl (by kernel_rfl) (by kernel_rfl) (by kernel_rfl) (fun _ _ _ _ h => h) ⟨hA, hB, hcx, hcy⟩ (by decide) (fun w hS => R.indexAddr1 (i := j) Tryd.underlying31 sz57 rfl rfl rfl (by omega)) ?_
                          refine AH.take 4 rfl (by kernel_rfl) (by kernel_rfl) (by kernel_rfl) (fun _ _ _ _ h => h) ⟨hA, hB, hcx, hcy⟩ (by decide) (fun w hS => R.loadR (r := x) hx16 rfl hS.2.2.1) ?_
                          refine AH.take 5 rfl (by kernel_rfl) (by kernel_rfl) (by kernel_rfl) (fun _ _ _ _ h => h) ⟨hA, hB, hcx, hcy⟩ (by decide) (fun w hS => FA33_7 rfl) ?_
                          refine AH.take 6 rfl (by kernel_rfl) (by kernel_rfl) (by kernel_rfl) (fun _ _ _ _ h => h) ⟨hA, hB, hcx, hcy⟩ (by decide) (fun w hS => R.load (v := .slice (some ⟨gy, oy, none⟩) b.auth.length db) Tryd.underlying31 rfl rfl (cell_at hS.2.1 (by rw [← hgy]; rfl))) ?_
                          refine AH.take 7 rfl (by kernel_rfl) (by kernel_rfl) (by kernel_rfl) (fun _ _ _ _ h => h) ⟨hA, hB, hcx, hcy⟩ (by decide) (fun w hS => R.move rfl) ?_
                          refine AH.take 8 rfl (by kernel_rfl) (by kernel_rfl) (by kernel_rfl) (fun _ _ _ _ h => h) ⟨hA, hB, hcx, hcy⟩ (by decide) (fun w hS => R.indexAddr1 (i := j) Tryd.underlying31 sz57 rfl rfl rfl (by omega)) ?_
                          refine AH.take 9 rfl (by kernel_rfl) (by kernel_rfl) (by kernel_rfl) (fun _ _ _ _ h => h) ⟨hA, hB, hcx, hcy⟩ (by decide) (fun w hS => R.loadR (r := y) hy16 rfl hS.2.2.2) ?_
                          by_cases h12 : ¬ x = y
                          · skip
                            refine AH.take 10 rfl (by kernel_rfl) (by kernel_rfl) (by kernel_rfl) (fun _ _ _ _ h => h) ⟨hA, hB, hcx, hcy⟩ (by decide) (fun w hS => R.neq57 hx16 hy16 rfl rfl (c := true) (by simp [h12])) ?_
                            refine AH.done (by kernel_rfl) ?_
                            refine EW.next ?_
                            refine CW.condT rfl ?_
                            refine CW.rseq ?_
                            refine WL.op (by decide) (R.assign rfl) ?_
                            refine WL.next ?_
                            refine CW.ret ?_
                            refine EW.inRet ?_
                            refine EW.thenRet ?_
                            refine EW.thenRet ?_
                            refine EW.inRet ?_
                            refine EW.thenRet ?_
                            exact EW.ret1 (.inl rfl) rfl rfl ⟨congrArg (fun b => Ending.returned (.bool b)) (sameM_no (fun e => (show ¬ x = y by assumption) (by subst e; exact Option.some.inj (hx.symm.trans hy)))).symm, hC⟩
                          · skip
                            refine AH.take 10 rfl (by kernel_rfl) (by kernel_rfl) (by kernel_rfl) (fun _ _ _ _ h => h) ⟨hA, hB, hcx, hcy⟩ (by decide) (fun w hS => R.neq57 hx16 hy16 rfl rfl (c := false) (by simpa using h12)) ?_
                            refine AH.done (by kernel_rfl) ?_
                            refine EW.next ?_
                            refine CW.condF rfl ?_
                            refine CW.skip ?_
                            refine EW.inNormal ?_
                            refine EW.next ?_
                            refine CW.region ?_
                            refine WL.op (by decide) (R.add rfl rfl (by omega)) ?_
                            refine WL.op (by decide) (R.move rfl) ?_
                            refine WL.nil ?_
                            exact EW.roundK [2, 3, 85, 86] (k - 1) (by omega) ⟨hC, hA, hB, hAa, hBa, hAb, hBb, j + 1, _, by omega, by omega, rfl, take_next htk hx hy (Classical.byContradiction (fun e => by contradiction))⟩
                        · skip
                          refine WL.next ?_
                          refine CW.seq ?_
                          refine CW.condF rfl ?_
                          refine CW.exit ?_
                          have hauth : a.auth = b.auth := by rwa [List.take_of_length_le (by omega), List.take_of_length_le (by omega)] at htk
                          refine EW.thenExit ?_
                          refine EW.thenExit ?_
                          refine EW.inHere ?_
                          refine EW.next ?_
                          refine CW.rseq ?_
                          refine WL.op (by decide) (R.assign rfl) ?_
                          refine WL.next ?_
                          refine CW.ret ?_
                          exact EW.ret1 (.inl rfl) rfl rfl ⟨congrArg (fun b => Ending.returned (.bool b)) (sameM_yes (by omega) (by simpa using @h2) (by simpa using @h3) (by simpa using @h4) (by omega) (by simpa using @h6) hans hauth).symm, hC⟩
end Go.Proofs.YthcpjcgjmdfpjaaDoor

namespace Go.Proofs.YthcpjcgjmdfpjaaDoor
open Go Go.ChangeShapes Go.WideShapes Go.ChangeAt Go.RowKit
set_option maxRecDepth 100000

/-! ### Where the ways meet again, inside a region -/
theorem upon_cong {P : Program} {o : Oper} {a : Act} {w : World} {K K' : Act → World → Prop} {Q Q' : Exit → Act → World → Prop} (hp : ∀ c a w, Q (.panic c) a w → Q' (.panic c) a w) (ho : LetsOut Q → LetsOut Q') (hk : ∀ a w, K a w → K' a w) (h : o.wp P a w K Q) : o.wp P a w K' Q' := by
  unfold Oper.wp at *
  generalize (execOp a.eval o).run P w = r at *
  cases r with
  | ok n w' =>
    cases n <;> simp only [Oper.upon] at h ⊢ <;>
      first
        | exact hk _ _ h
        | exact Calls.mono h (fun e w'' he => by cases e <;> first | exact hk _ _ he | exact hp _ _ _ he | exact ho he)
        | exact Rows.mono h (fun _ _ he => hk _ _ he)
  | halt x w' => cases x <;> simp only [Oper.upon] at h ⊢ <;> first | exact hp _ _ _ h | exact h
theorem wpList_join {P : Program} {ops : Array Oper} {Q : Exit → Act → World → Prop} {N : Act → World → Prop} {ys : List Oper} (h2 : ∀ a w, N a w → wpList P ops Q ys a w) : ∀ (xs : List Oper) (a : Act) (w : World), wpList P ops (Exit.then N Q) xs a w → wpList P ops Q (xs ++ ys) a w
  | [], a, w, h => h2 a w h
  | o :: xs, a, w, h => by
    have ih := wpList_join h2 xs
    have hl : LetsOut (Exit.then N Q) → LetsOut Q := fun ⟨a, w, h⟩ => ⟨a, w, h⟩
    unfold wpList at h
    show wpList P ops Q (o :: (xs ++ ys)) a w
    unfold wpList
    split
    · rename_i hw
      rw [if_pos hw] at h
      exact h.imp (upon_cong (fun _ _ _ h => h) hl ih) (fun h => ⟨h.1, hl h.2⟩)
    · rename_i hw
      rw [if_neg hw] at h
      exact ih _ _ h
section
variable {P : Program} {ops : Array Oper} {Q : Exit → Act → World → Prop} {n : Nat} {l : Env} {w : World}
/-- The first k operations, and what holds behind them. -/
theorem WL.cut (k : Nat) (M : Env → World → Prop) {os : List Oper} (h1 : WL P ops (Exit.then (fun a' w' => ∃ l', Fr a' n l' ∧ M l' w') Q) (os.take k) n l w) (h2 : ∀ l w, M l w → WL P ops Q (os.drop k) n l w) : WL P ops Q os n l w := by
  intro a ha
  have := wpList_join (ys := os.drop k) (fun a' w' ⟨l', hf, hM⟩ => h2 l' w' hM a' hf) (os.take k) a w (h1 a ha)
  rwa [List.take_append_drop] at this
theorem WL.cutEnd (ks : List Nat) {M : Env → World → Prop} (hM : M (Env.keep l ks) w) : WL P ops (Exit.then (fun a' w' => ∃ l', Fr a' n l' ∧ M l' w') Q) [] n l w := fun a ha => ⟨_, ha.weaken (Env.keep_get l ks), hM⟩
end

theorem len_dec {bs : List UInt8} {M : Msg} (h : decode bs = some M) : M.ans.length ≤ 1099511627776 ∧ M.auth.length ≤ 1099511627776 := by
  have := (all_parts (decode_all h)).2.2.2.2.2.2.2.1
  omega
/-! ### Chains -/
theorem Chg.thenB {S : Nat → Prop} {a b c : World} {g : Nat} (h : Chg S a b) (k : Chg (fun j => j = g) b c) (hg : a.heap.size ≤ g) : Chg S a c := h.then k (fun j hj e => absurd hj (by omega))
theorem RSl.keep0 {w w' : World} {v : Value} {rs : List Rec} (h : RSl w v rs) (hc : Chg (fun _ => False) w w') : RSl w' v rs := h.kept hc (fun _ _ e => e)
theorem Src.keep0 {w w' : World} {A : Option Addr} {m c : Nat} {bs : List UInt8} (h : Src w A m c bs) (hc : Chg (fun _ => False) w w') : Src w' A m c bs := h.kept hc (fun _ _ _ e => e)
theorem Glob.keep0 {w w' : World} (h : Glob w) (hc : Chg (fun _ => False) w w') : Glob w' := h.kept hc (fun e => e)
theorem MV.keep0 {w w' : World} {v : Value} {m : Msg} (h : MV w v m) (hc : Chg (fun _ => False) w w') : MV w' v m := h.kept hc (fun _ _ e => e)
theorem Buf.keep0 {w w' : World} {base : Nat} {v : Value} {bs : List UInt8} (h : Buf w base v bs) (hc : Chg (fun _ => False) w w') : Buf w' base v bs := h.kept hc (fun _ _ e => e)

/-! ### Messages -/
abbrev BM (w : World) (b : Nat) (m : Msg) (va vb : Value) : Prop := w.heap[b]? = some (.cells (m.cells va vb).toArray 33 (0, 0))
def msg0 : Msg := ⟨0, false, false, false, 0, [], 0, [], []⟩
theorem Msg.setId (m : Msg) (va vb : Value) (x : Int) : (m.cells va vb).toArray.setIfInBounds 0 (.int .i64 x) = (({ m with id := x } : Msg).cells va vb).toArray := by simp [Msg.cells]
theorem Msg.setType (m : Msg) (va vb : Value) (x : Int) : (m.cells va vb).toArray.setIfInBounds 6 (.int .i64 x) = (({ m with qtype := x } : Msg).cells va vb).toArray := by simp [Msg.cells]
theorem Msg.setQ (m : Msg) (va vb : Value) (s : List UInt8) (x : Int) : ((m.cells va vb).toArray.toList.take 5 ++ [sv s, .int .i64 x] ++ (m.cells va vb).toArray.toList.drop (5 + 2)).toArray = (({ m with qname := s, qtype := x } : Msg).cells va vb).toArray := by simp [Msg.cells]
theorem sl_one (A : Option Addr) (n c : Nat) : (Value.slice A n c).oneCell' = true := rfl
section
variable {l : Env} {n d : Nat} {w : World} {Q : Exit → Act → World → Prop} {M : Env → World → Prop} {t ty : TypeId} {pos : String} {af : Array Edge} {x y : Operand} {b o : Nat}
theorem OP.allocM (hdn : d < n) (h : ∀ w', Chg (fun _ => False) w w' → w'.heap.size = w.heap.size + 1 → BM w' w.heap.size msg0 (.slice none 0 0) (.slice none 0 0) → M ((d, .pointer (some ⟨w.heap.size, 0, none⟩)) :: l) w') :
    OP Tryd.prog Q ⟨some d, .alloc 33, t, pos, af, none⟩ n l w M :=
  OP.alloc1 (.agg (msg0.cells (.slice none 0 0) (.slice none 0 0)).toArray) hdn (by kernel_rfl) h
theorem OP.storeM {m m0 : Msg} {A A2 : Option Addr} {i c i2 c2 : Nat} {u u2 : Value} (hx : ev l x = some (.pointer (some ⟨b, 0, none⟩))) (hy : ev l y = some (.agg (m.cells (.slice A i c) (.slice A2 i2 c2)).toArray)) (hb : BM w b m0 u u2)
    (h : ∀ w', Chg (fun k => k = b) w w' → w'.heap.size = w.heap.size → BM w' b m (.slice A i c) (.slice A2 i2 c2) → M l w') :
    OP Tryd.prog Q ⟨none, .store 33 x y, ty, pos, af, none⟩ n l w M :=
  OP.storeAgg inf33.choose_spec.1 (by rw [inf33.choose_spec.2]; rfl) hx hy (m_all _ _ _ _ _ _ _) hb rfl h
theorem R.loadM {m : Msg} {va vb : Value} (hx : ev l x = some (.pointer (some ⟨b, 0, none⟩))) (hb : BM w b m va vb) : Runs Tryd.prog l (.load 33 x) w (.agg (m.cells va vb).toArray) w :=
  R.loadAgg1 (cs := m.cells va vb) Tryd.underlying33 rfl sz33 hx (fun j u hj => cell_at hb (by rw [Nat.zero_add, List.getElem?_toArray]; exact hj))
theorem R.loadQ {m : Msg} {va vb : Value} (hx : ev l x = some (.pointer (some ⟨b, 5, none⟩))) (hb : BM w b m va vb) : Runs Tryd.prog l (.load 25 x) w (.agg #[sv m.qname, .int .i64 m.qtype]) w :=
  R.loadAgg1 (cs := [sv m.qname, .int .i64 m.qtype]) Tryd.underlying25 rfl sz25 hx (fun j u hj => cell_at hb (by match j, hj with | 0, hj => exact hj | 1, hj => exact hj))
theorem OP.storeId {m : Msg} {va vb : Value} {v : Int} (hx : ev l x = some (.pointer (some ⟨b, 0, none⟩))) (hy : ev l y = some (.int .i64 v)) (hb : BM w b m va vb)
    (h : ∀ w', Chg (fun k => k = b) w w' → w'.heap.size = w.heap.size → BM w' b { m with id := v } va vb → M l w') :
    OP Tryd.prog Q ⟨none, .store 3 x y, ty, pos, af, none⟩ n l w M :=
  OP.store1 sz3 hx hy rfl rfl hb (by simp [Msg.cells]) rfl (fun w' h1 h2 h3 => h w' h1 h2 (by rw [Msg.setId] at h3; exact h3))
theorem OP.storeType {m : Msg} {va vb : Value} {v : Int} (hx : ev l x = some (.pointer (some ⟨b, 6, none⟩))) (hy : ev l y = some (.int .i64 v)) (hb : BM w b m va vb)
    (h : ∀ w', Chg (fun k => k = b) w w' → w'.heap.size = w.heap.size → BM w' b { m with qtype := v } va vb → M l w') :
    OP Tryd.prog Q ⟨none, .store 3 x y, ty, pos, af, none⟩ n l w M :=
  OP.store1 sz3 hx hy rfl rfl hb (by simp [Msg.cells]) rfl (fun w' h1 h2 h3 => h w' h1 h2 (by rw [Msg.setType] at h3; exact h3))
theorem OP.storeQ {m : Msg} {va vb : Value} {s : List UInt8} {v : Int} (hx : ev l x = some (.pointer (some ⟨b, 5, none⟩))) (hy : ev l y = some (.agg #[sv s, .int .i64 v])) (hb : BM w b m va vb)
    (h : ∀ w', Chg (fun k => k = b) w w' → w'.heap.size = w.heap.size → BM w' b { m with qname := s, qtype := v } va vb → M l w') :
    OP Tryd.prog Q ⟨none, .store 25 x y, ty, pos, af, none⟩ n l w M :=
  OP.storeAt sz25 rfl hx hy (by simp [sv, Value.oneCell']) hb (by simp [Msg.cells]) (fun w' h1 h2 h3 => h w' h1 h2 (by
    have e := Msg.setQ m va vb s v
    rw [e] at h3; exact h3))
theorem OP.storeAns {m : Msg} {va vb : Value} {A : Option Addr} {i c : Nat} {rs : List Rec} (hx : ev l x = some (.pointer (some ⟨b, 7, none⟩))) (hy : ev l y = some (.slice A i c)) (hb : BM w b m va vb)
    (h : ∀ w', Chg (fun k => k = b) w w' → w'.heap.size = w.heap.size → BM w' b { m with ans := rs } (.slice A i c) vb → M l w') :
    OP Tryd.prog Q ⟨none, .store 31 x y, ty, pos, af, none⟩ n l w M :=
  OP.store1 sz31 hx hy rfl rfl hb (by simp [Msg.cells]) rfl (fun w' h1 h2 h3 => h w' h1 h2 (by
    have e : (m.cells va vb).toArray.setIfInBounds 7 (.slice A i c) = (({ m with ans := rs } : Msg).cells (.slice A i c) vb).toArray := by simp [Msg.cells]
    rw [e] at h3; exact h3))
theorem OP.storeAuth {m : Msg} {va vb : Value} {A : Option Addr} {i c : Nat} {rs : List Rec} (hx : ev l x = some (.pointer (some ⟨b, 8, none⟩))) (hy : ev l y = some (.slice A i c)) (hb : BM w b m va vb)
    (h : ∀ w', Chg (fun k => k = b) w w' → w'.heap.size = w.heap.size → BM w' b { m with auth := rs } va (.slice A i c) → M l w') :
    OP Tryd.prog Q ⟨none, .store 31 x y, ty, pos, af, none⟩ n l w M :=
  OP.store1 sz31 hx hy rfl rfl hb (by simp [Msg.cells]) rfl (fun w' h1 h2 h3 => h w' h1 h2 (by
    have e : (m.cells va vb).toArray.setIfInBounds 8 (.slice A i c) = (({ m with auth := rs } : Msg).cells va (.slice A i c)).toArray := by simp [Msg.cells]
    rw [e] at h3; exact h3))

/-! ### Questions on their way -/
abbrev BT (w : World) (b : Nat) (t : Tr) : Prop := w.heap[b]? = some (.cells t.cells.toArray 29 (0, 0))
def tr0 : Tr := ⟨[], 0, 0, 0, zero16, 0, 0, false, false, 0⟩
theorem OP.allocT (hdn : d < n) (h : ∀ w', Chg (fun _ => False) w w' → w'.heap.size = w.heap.size + 1 → BT w' w.heap.size tr0 → M ((d, .pointer (some ⟨w.heap.size, 0, none⟩)) :: l) w') :
    OP Tryd.prog Q ⟨some d, .alloc 29, t, pos, af, none⟩ n l w M :=
  OP.alloc1 (.agg tr0.cells.toArray) hdn (by kernel_rfl) h
theorem OP.storeT {T T0 : Tr} (h16 : T.to.length = 16) (h160 : T0.to.length = 16) (hx : ev l x = some (.pointer (some ⟨b, 0, none⟩))) (hy : ev l y = some T.val) (hb : BT w b T0)
    (h : ∀ w', Chg (fun k => k = b) w w' → w'.heap.size = w.heap.size → BT w' b T → M l w') :
    OP Tryd.prog Q ⟨none, .store 29 x y, ty, pos, af, none⟩ n l w M := by
  obtain ⟨i, hi, hz⟩ := inf_of sz29
  exact OP.storeAgg hi (by rw [hz, List.size_toArray, Tr.length h16]) hx hy (Tr.allOne _) hb (by rw [List.size_toArray, List.size_toArray, Tr.length h16, Tr.length h160]) h
theorem R.loadT {T : Tr} (h16 : T.to.length = 16) (hx : ev l x = some (.pointer (some ⟨b, 0, none⟩))) (hb : BT w b T) : Runs Tryd.prog l (.load 29 x) w T.val w :=
  R.loadAgg1 (cs := T.cells) Tryd.underlying29 rfl (by rw [Tr.length h16]; exact sz29) hx (fun j u hj => cell_at hb (by rw [Nat.zero_add, List.getElem?_toArray]; exact hj))
theorem R.loadTQ {T : Tr} (hx : ev l x = some (.pointer (some ⟨b, 0, none⟩))) (hb : BT w b T) : Runs Tryd.prog l (.load 25 x) w (.agg #[sv T.qname, .int .i64 T.qtype]) w :=
  R.loadAgg1 (cs := [sv T.qname, .int .i64 T.qtype]) Tryd.underlying25 rfl sz25 hx (fun j u hj => cell_at hb (by match j, hj with | 0, hj => exact hj | 1, hj => exact hj))
theorem R.loadTTo {T : Tr} (h16 : T.to.length = 16) (hx : ev l x = some (.pointer (some ⟨b, 4, none⟩))) (hb : BT w b T) : Runs Tryd.prog l (.load 27 x) w (.agg (T.to.map u8v).toArray) w :=
  R.loadAgg1 (cs := T.to.map u8v) Tryd.underlying27 rfl (by rw [List.length_map, h16]; exact sz27) hx (fun j u hj => cell_at hb (Tr.atTo hj))
theorem Tr.setStream {T : Tr} (h16 : T.to.length = 16) (s : Bool) : T.cells.toArray.setIfInBounds 22 (.bool s) = ({ T with stream := s } : Tr).cells.toArray := by
  obtain ⟨q, a, b, c, to, i, p, st, g, u⟩ := T
  obtain ⟨a0, a1, a2, a3, a4, a5, a6, a7, a8, a9, b0, b1, b2, b3, b4, b5, rfl⟩ := list16 h16
  rfl
theorem OP.storeStream {T : Tr} {v : Bool} (h16 : T.to.length = 16) (hx : ev l x = some (.pointer (some ⟨b, 22, none⟩))) (hy : ev l y = some (.bool v)) (hb : BT w b T)
    (h : ∀ w', Chg (fun k => k = b) w w' → w'.heap.size = w.heap.size → BT w' b { T with stream := v } → M l w') :
    OP Tryd.prog Q ⟨none, .store 4 x y, ty, pos, af, none⟩ n l w M :=
  OP.store1 sz4 hx hy rfl rfl hb (by rw [List.size_toArray, Tr.length h16]; decide) rfl (fun w' h1 h2 h3 => h w' h1 h2 (by rw [Tr.setStream h16] at h3; exact h3))

/-! ### Addresses alone -/
abbrev BA (w : World) (b : Nat) (a : List UInt8) : Prop := w.heap[b]? = some (.cells (a.map u8v).toArray 27 (0, 0))
theorem u8_all (a : List UInt8) : (a.map u8v).toArray.all (·.oneCell') = true := by
  rw [Array.all_eq_true_iff_forall_mem]
  intro u hu
  exact u8v_one a u (by simpa using hu)
theorem OP.allocA (hdn : d < n) (h : ∀ w', Chg (fun _ => False) w w' → w'.heap.size = w.heap.size + 1 → BA w' w.heap.size zero16 → M ((d, .pointer (some ⟨w.heap.size, 0, none⟩)) :: l) w') :
    OP Tryd.prog Q ⟨some d, .alloc 27, t, pos, af, none⟩ n l w M :=
  OP.alloc1 (.agg (zero16.map u8v).toArray) hdn (by kernel_rfl) h
theorem OP.storeA {a a0 : List UInt8} (h16 : a.length = 16) (h160 : a0.length = 16) (hx : ev l x = some (.pointer (some ⟨b, 0, none⟩))) (hy : ev l y = some (.agg (a.map u8v).toArray)) (hb : BA w b a0)
    (h : ∀ w', Chg (fun k => k = b) w w' → w'.heap.size = w.heap.size → BA w' b a → M l w') :
    OP Tryd.prog Q ⟨none, .store 27 x y, ty, pos, af, none⟩ n l w M := by
  obtain ⟨i, hi, hz⟩ := inf_of sz27
  exact OP.storeAgg hi (by rw [hz, List.size_toArray, List.length_map, h16]) hx hy (u8_all a) hb (by rw [List.size_toArray, List.size_toArray, List.length_map, List.length_map, h16, h160]) h
theorem R.loadA {a : List UInt8} (h16 : a.length = 16) (hx : ev l x = some (.pointer (some ⟨b, 0, none⟩))) (hb : BA w b a) : Runs Tryd.prog l (.load 27 x) w (.agg (a.map u8v).toArray) w :=
  R.loadAgg1 (cs := a.map u8v) Tryd.underlying27 rfl (by rw [List.length_map, h16]; exact sz27) hx (fun j u hj => cell_at hb (by rw [Nat.zero_add, List.getElem?_toArray]; exact hj))
theorem OP.storeA1 {a : List UInt8} {i : Nat} {c : UInt8} (hi : i < a.length) (hx : ev l x = some (.pointer (some ⟨b, i, none⟩))) (hy : ev l y = some (u8v c)) (hb : BA w b a)
    (h : ∀ w', Chg (fun k => k = b) w w' → w'.heap.size = w.heap.size → BA w' b (a.set i c) → M l w') :
    OP Tryd.prog Q ⟨none, .store 5 x y, ty, pos, af, none⟩ n l w M :=
  OP.store1 sz5 hx hy rfl rfl hb (by simpa using hi) rfl (fun w' h1 h2 h3 => h w' h1 h2 (by
    have e : (a.map u8v).toArray.setIfInBounds i (u8v c) = ((a.set i c).map u8v).toArray := by simp
    rw [e] at h3; exact h3))

/-! ### Seeds and local addresses -/
theorem SeedV.length {s : SeedV} (h : s.addr.length = 16) : s.cells.length = 20 := by simp [SeedV.cells, h]
theorem SeedV.atAddr {s : SeedV} {j : Nat} {u : Value} (hj : (s.addr.map u8v)[j]? = some u) : s.cells.toArray[3 + j]? = some u := by
  have hlt := (List.getElem?_eq_some_iff.1 hj).1
  rw [Nat.add_comm, List.getElem?_toArray]
  show (s.addr.map u8v ++ [sv s.data])[j]? = _
  rw [List.getElem?_append_left hlt]; exact hj
theorem SeedV.at19 {s : SeedV} (h : s.addr.length = 16) : s.cells.toArray[19]? = some (sv s.data) := by
  rw [List.getElem?_toArray]
  show (s.addr.map u8v ++ [sv s.data])[16]? = _
  rw [List.getElem?_append_right (by simp [h])]; simp [h]
theorem SeedV.allOne (s : SeedV) : s.cells.toArray.all (·.oneCell') = true := by
  rw [Array.all_eq_true_iff_forall_mem]
  intro u hu
  simp only [SeedV.cells, List.mem_toArray, List.mem_cons, List.mem_append, List.mem_map, List.not_mem_nil, or_false] at hu
  rcases hu with rfl | rfl | rfl | ⟨c, _, rfl⟩ | rfl <;> rfl
abbrev BSd (w : World) (b : Nat) (s : SeedV) : Prop := w.heap[b]? = some (.cells s.cells.toArray 50 (0, 0))
def seed0 : SeedV := ⟨0, 0, 0, zero16, []⟩
theorem OP.allocSd (hdn : d < n) (h : ∀ w', Chg (fun _ => False) w w' → w'.heap.size = w.heap.size + 1 → BSd w' w.heap.size seed0 → M ((d, .pointer (some ⟨w.heap.size, 0, none⟩)) :: l) w') :
    OP Tryd.prog Q ⟨some d, .alloc 50, t, pos, af, none⟩ n l w M :=
  OP.alloc1 (.agg seed0.cells.toArray) hdn (by kernel_rfl) h
theorem OP.storeSd {s s0 : SeedV} (h16 : s.addr.length = 16) (h160 : s0.addr.length = 16) (hx : ev l x = some (.pointer (some ⟨b, 0, none⟩))) (hy : ev l y = some (.agg s.cells.toArray)) (hb : BSd w b s0)
    (h : ∀ w', Chg (fun k => k = b) w w' → w'.heap.size = w.heap.size → BSd w' b s → M l w') :
    OP Tryd.prog Q ⟨none, .store 50 x y, ty, pos, af, none⟩ n l w M := by
  obtain ⟨i, hi, hz⟩ := inf_of sz50
  exact OP.storeAgg hi (by rw [hz, List.size_toArray, SeedV.length h16]) hx hy s.allOne hb (by rw [List.size_toArray, List.size_toArray, SeedV.length h16, SeedV.length h160]) h
theorem R.loadSdAt {s : SeedV} {g k : Nat} (h16 : s.addr.length = 16) (hx : ev l x = some (.pointer (some ⟨g, k, none⟩))) (hc : ∀ i u, s.cells[i]? = some u → w.cell? ⟨g, k + i, none⟩ = some u) : Runs Tryd.prog l (.load 50 x) w (.agg s.cells.toArray) w :=
  R.loadAgg1 (cs := s.cells) Tryd.underlying50 rfl (by rw [SeedV.length h16]; exact sz50) hx hc
theorem R.loadSd {s : SeedV} (h16 : s.addr.length = 16) (hx : ev l x = some (.pointer (some ⟨b, 0, none⟩))) (hb : BSd w b s) : Runs Tryd.prog l (.load 50 x) w (.agg s.cells.toArray) w :=
  R.loadSdAt h16 hx (fun j u hj => cell_at hb (by rw [Nat.zero_add, List.getElem?_toArray]; exact hj))
theorem Sl.at {α : Type} {cells : α → List Value} {N : Nat} {A : Option Addr} {m : Nat} {ls : List α} (h : Sl cells N w A m ls) {j : Nat} {a : α} (hj : ls[j]? = some a) : ls.length = m ∧ ∃ g o, A = some ⟨g, o, none⟩ ∧ ∀ i u, (cells a)[i]? = some u → w.cell? ⟨g, o + j * N + i, none⟩ = some u := by
  have hlt := (List.getElem?_eq_some_iff.1 hj).1
  obtain ⟨g, o, hA, hc⟩ := h.2 (by have := h.1; omega)
  exact ⟨h.1, g, o, hA, fun i u hi => hc j a i u hj hi⟩
theorem LocalV.length {s : LocalV} (h : s.addr.length = 16) : s.cells.length = 18 := by simp [LocalV.cells, h]
theorem LocalV.atAddr {s : LocalV} {j : Nat} {u : Value} (hj : (s.addr.map u8v)[j]? = some u) : s.cells.toArray[j]? = some u := by
  have hlt := (List.getElem?_eq_some_iff.1 hj).1
  rw [List.getElem?_toArray]
  show (s.addr.map u8v ++ _)[j]? = _
  rw [List.getElem?_append_left hlt]; exact hj
theorem LocalV.allOne (s : LocalV) : s.cells.toArray.all (·.oneCell') = true := by
  rw [Array.all_eq_true_iff_forall_mem]
  intro u hu
  simp only [LocalV.cells, List.mem_toArray, List.mem_cons, List.mem_append, List.mem_map, List.not_mem_nil, or_false] at hu
  rcases hu with ⟨c, _, rfl⟩ | rfl | rfl <;> rfl
abbrev BLo (w : World) (b : Nat) (s : LocalV) : Prop := w.heap[b]? = some (.cells s.cells.toArray 70 (0, 0))
def local0 : LocalV := ⟨zero16, false, false⟩
theorem OP.allocLo (hdn : d < n) (h : ∀ w', Chg (fun _ => False) w w' → w'.heap.size = w.heap.size + 1 → BLo w' w.heap.size local0 → M ((d, .pointer (some ⟨w.heap.size, 0, none⟩)) :: l) w') :
    OP Tryd.prog Q ⟨some d, .alloc 70, t, pos, af, none⟩ n l w M :=
  OP.alloc1 (.agg local0.cells.toArray) hdn (by kernel_rfl) h
theorem OP.storeLo {s s0 : LocalV} (h16 : s.addr.length = 16) (h160 : s0.addr.length = 16) (hx : ev l x = some (.pointer (some ⟨b, 0, none⟩))) (hy : ev l y = some (.agg s.cells.toArray)) (hb : BLo w b s0)
    (h : ∀ w', Chg (fun k => k = b) w w' → w'.heap.size = w.heap.size → BLo w' b s → M l w') :
    OP Tryd.prog Q ⟨none, .store 70 x y, ty, pos, af, none⟩ n l w M := by
  obtain ⟨i, hi, hz⟩ := inf_of sz70
  exact OP.storeAgg hi (by rw [hz, List.size_toArray, LocalV.length h16]) hx hy s.allOne hb (by rw [List.size_toArray, List.size_toArray, LocalV.length h16, LocalV.length h160]) h
theorem R.loadLoAt {s : LocalV} {g k : Nat} (h16 : s.addr.length = 16) (hx : ev l x = some (.pointer (some ⟨g, k, none⟩))) (hc : ∀ i u, s.cells[i]? = some u → w.cell? ⟨g, k + i, none⟩ = some u) : Runs Tryd.prog l (.load 70 x) w (.agg s.cells.toArray) w :=
  R.loadAgg1 (cs := s.cells) Tryd.underlying70 rfl (by rw [LocalV.length h16]; exact sz70) hx hc
theorem R.loadLoA {s : LocalV} (h16 : s.addr.length = 16) (hx : ev l x = some (.pointer (some ⟨b, 0, none⟩))) (hb : BLo w b s) : Runs Tryd.prog l (.load 27 x) w (.agg (s.addr.map u8v).toArray) w :=
  R.loadAgg1 (cs := s.addr.map u8v) Tryd.underlying27 rfl (by rw [List.length_map, h16]; exact sz27) hx (fun j u hj => cell_at hb (by rw [Nat.zero_add]; exact LocalV.atAddr hj))
theorem R.loadSdA {s : SeedV} (h16 : s.addr.length = 16) (hx : ev l x = some (.pointer (some ⟨b, 3, none⟩))) (hb : BSd w b s) : Runs Tryd.prog l (.load 27 x) w (.agg (s.addr.map u8v).toArray) w :=
  R.loadAgg1 (cs := s.addr.map u8v) Tryd.underlying27 rfl (by rw [List.length_map, h16]; exact sz27) hx (fun j u hj => cell_at hb (SeedV.atAddr hj))
theorem R.loadRA {r : Rec} {g k : Nat} (h16 : r.addr.length = 16) (hx : ev l x = some (.pointer (some ⟨g, k + 3, none⟩))) (hc : ∀ i u, r.cells[i]? = some u → w.cell? ⟨g, k + i, none⟩ = some u) : Runs Tryd.prog l (.load 27 x) w (.agg (r.addr.map u8v).toArray) w :=
  R.loadAgg1 (cs := r.addr.map u8v) Tryd.underlying27 rfl (by rw [List.length_map, h16]; exact sz27) hx (fun j u hj => by
    rw [Nat.add_assoc]
    refine hc _ u ?_
    have := Rec.atAddr (r := r) hj
    rwa [List.getElem?_toArray] at this)

/-! ### Appends of a slice handed in -/
theorem OP.appendSrc {base : Nat} {v : Value} {bs news : List UInt8} {A : Option Addr} {m c : Nat} (hdn : d < n) (hx : ev l x = some v) (hy : ev l y = some (.slice A m c)) (hB : Buf w base v bs) (hS : Src w A m c news) (hA : A = none → c = 0) (hl : bs.length + m ≤ 140737488355328) (hb : base ≤ w.heap.size)
    (h : ∀ v' w', Buf w' base v' (bs ++ news) → Moved w w' v v' → M ((d, v') :: l) w') :
    OP Tryd.prog Q ⟨some d, .call { callee := .builtin .append, args := #[x, y], argTypes := #[36, 36] }, t, pos, af, none⟩ n l w M := by
  cases A with
  | none =>
    have hc := hA rfl
    have hm : m = 0 := by have := hS.cap; omega
    subst hc hm
    have hn : news = [] := List.eq_nil_of_length_eq_zero hS.len
    subst hn
    obtain ⟨i0, hi, hz0, hz1, hz2⟩ := info_parts Tryd.info5
    refine OP.val (v := v) (w' := w) hdn (fun r _ _ _ _ _ he => ?_) (h v w (by rw [List.append_nil]; exact hB) (Moved.refl _ _))
    have hr := fun ty => run_append_owned_none (P := Tryd.prog) (w := w) base 36 ty 5 i0 1 Tryd.underlying36 hi v bs.length (bs.map u8v) hB
    simp only [execOp, resolve, invoke, builtin, Sem.run_bind, Sem.run_pure, Result.andThen_ok, List.map_toArray, List.map_cons, List.map_nil, he x _ hx, he y _ hy]
    rw [hr]; rfl
  | some ad =>
    refine OP.append news hdn hx hy hB hS.len ?_ (by have := hS.len; omega) hb h
    intro j u hj
    have hlt := (List.getElem?_eq_some_iff.1 hj).1
    rw [List.length_map, hS.len] at hlt
    obtain ⟨g, o, hA2, hcell⟩ := hS.cells (by omega)
    obtain rfl := Option.some.inj hA2
    rw [List.getElem?_map] at hj
    obtain ⟨c1, hc1, rfl⟩ := Option.map_eq_some_iff.1 hj
    rw [Addr.add_none]
    exact hcell j c1 hc1

/-! ### strings.Count of one byte -/
theorem R.countStr {s : List UInt8} {c : UInt8} {ts : Array TypeId} (hx : ev l x = some (sv s)) (hy : ev l y = some (u8v c)) : Runs Tryd.prog l (.call { callee := .value (.func 56), args := #[x, y], argTypes := ts }) w (.int .i64 ((Lib.countByte s c : Nat) : Int)) w := fun r _ _ _ _ _ he => by
  have hcf : (callFunc 56 #[sv s, u8v c]).run Tryd.prog w = .ok (.value (.int .i64 ((Lib.countByte s c : Nat) : Int))) w := by
    unfold callFunc
    have h1 : (Tryd.f56.name == "runtime.NumGoroutine") = false := by kernel_rfl
    have h2 : Tryd.f56.body.isNone = true := by kernel_rfl
    have h3 : Extern.findNext Tryd.f56 = none := by kernel_rfl
    have h4 : Extern.find Tryd.f56 = some Extern.BytealgCount.count := by kernel_rfl
    have h5 := Lib.run_countString (P := Tryd.prog) ⟨s.toArray⟩ (c.toNat : Int) w
    have e1 : ((c.toNat : Int).toNat.toUInt8) = c := by
      apply UInt8.toNat_inj.1
      simp
    rw [e1] at h5
    simp only [Sem.run_bind, run_program, Result.andThen_ok, Tryd.func56, h1, h2, Bool.false_eq_true, if_false, if_true, run_mark, h3, h4]
    show Result.andThen ((Extern.BytealgCount.count #[.string ⟨s.toArray⟩, .int .u8 (c.toNat : Int)]).run Tryd.prog w) _ = _
    rw [h5]
    simp
  simp only [execOp, resolve, List.map_toArray, List.map_cons, List.map_nil, he x _ hx, he y _ hy, he (.func 56) _ rfl, Deferred.ofValue, Sem.run_bind, Sem.run_pure, Result.andThen_ok, invoke, Array.append_empty, Array.empty_append]
  exact hcf
end
end Go.Proofs.YthcpjcgjmdfpjaaDoor

namespace Go.Proofs.YthcpjcgjmdfpjaaDoor
open Go Go.RowKit
set_option maxRecDepth 100000
set_option maxHeartbeats 4000000

theorem Src.cellAt {w : World} {g m c j : Nat} {bs : List UInt8} {b : UInt8} (h : Src w (some ⟨g, 0, none⟩) m c bs) (hj : bs[j]? = some b) : w.cell? ⟨g, 0 + j * 1, none⟩ = some (u8v b) := by
  have hlt := (List.getElem?_eq_some_iff.1 hj).1
  obtain ⟨g2, o, hA, hc⟩ := h.cells (by have := h.len; omega)
  have hA2 := Option.some.inj hA
  injection hA2 with e1 e2
  subst e1 e2
  rw [Nat.mul_one]; exact hc j b hj
theorem Src.keepB {w w' : World} {g o b m c : Nat} {bs : List UInt8} (h : Src w (some ⟨g, o, none⟩) m c bs) (hc : Chg (fun k => k = b) w w') (hne : g ≠ b) : Src w' (some ⟨g, o, none⟩) m c bs := by
  refine h.kept hc (fun g2 o2 e e2 => ?_)
  have e3 := Option.some.inj e
  injection e3 with e4
  exact hne (e4.trans e2)
theorem Buf.keepB {w w' : World} {base g o b m c : Nat} {bs : List UInt8} (h : Buf w base (.slice (some ⟨g, o, none⟩) m c) bs) (hc : Chg (fun k => k = b) w w') (hne : g ≠ b) : Buf w' base (.slice (some ⟨g, o, none⟩) m c) bs :=
  h.kept hc (fun k e e2 => hne ((Option.some.inj e).trans e2))
theorem build33_05 (id : Int) (s : List UInt8) (t : Int) (w : World) : (Instr.build 33 #[(0, .int .i64 id), (5, .agg #[sv s, .int .i64 t])]).run Tryd.prog w = .ok (.agg (Msg.cells ⟨id, false, false, false, 0, s, t, [], []⟩ (.slice none 0 0) (.slice none 0 0)).toArray) w := by unfold sv; kernel_rfl
theorem count_one (s : List UInt8) (c : UInt8) (w0 : World) : Calls Tryd.prog 54 #[sv s, sv [c]] w0 fun e w' => e = .returned (.int .i64 ((Lib.countByte s c : Nat) : Int)) ∧ w0 = w' := by
  refine calls_cw (args := [sv s, sv [c]]) Tryd.func54 rfl rfl ?_
  show CW _ _ _ 34 [(0, sv s), (1, sv [c])] w0
  refine CW.rseq ?_
  refine WL.op (by decide) (R.assign rfl) ?_
  refine WL.next ?_
  refine CW.seq ?_
  refine CW.rseq ?_
  refine WL.op (by decide) (R.move rfl) ?_
  refine WL.op (by decide) (R.lenS rfl rfl) ?_
  refine WL.op (by decide) (R.eql rfl rfl (decide_eq_false (by simp))) ?_
  refine WL.next ?_
  refine CW.condF rfl ?_
  refine CW.skip ?_
  refine EW.next ?_
  refine CW.seq ?_
  refine CW.rseq ?_
  refine WL.op (by decide) (R.move rfl) ?_
  refine WL.op (by decide) (R.lenS rfl rfl) ?_
  refine WL.op (by decide) (R.eql rfl rfl (decide_eq_true (rfl))) ?_
  refine WL.next ?_
  refine CW.condT rfl ?_
  refine CW.rseq ?_
  refine WL.op (by decide) (R.move rfl) ?_
  refine WL.op (by decide) (R.move rfl) ?_
  refine WL.op (by decide) (R.indexS (i := 0) rfl rfl rfl rfl) ?_
  refine WL.op (by decide) (R.countStr rfl rfl) ?_
  refine WL.op (by decide) (R.assign rfl) ?_
  refine WL.next ?_
  refine CW.ret ?_
  refine EW.thenRet ?_
  exact EW.ret1 (.inl rfl) rfl rfl ⟨rfl, rfl⟩
theorem dots_any (s : List UInt8) (w0 : World) : Calls Tryd.prog 49 #[sv s] w0 fun e w' => e = .returned (.int .i64 ((Lib.countByte s 46 : Nat) : Int)) ∧ w0 = w' := by
  refine calls_cw (args := [sv s]) Tryd.func49 rfl rfl ?_
  show CW _ _ _ 5 [(0, sv s)] w0
  refine CW.rseq ?_
  refine WL.op (by decide) (R.assign rfl) ?_
  refine WL.next ?_
  refine CW.rseq ?_
  refine WL.op (by decide) (R.move rfl) ?_
  refine WL.eff rfl (OP.call (by decide) Tryd.func54 (by kernel_rfl) (by kernel_rfl) rfl (count_one _ _ _) ?_)
  rintro ed _ ⟨rfl, rfl⟩
  refine ⟨_, rfl, ?_⟩
  refine WL.op (by decide) (R.assign rfl) ?_
  refine WL.next ?_
  refine CW.ret ?_
  exact EW.ret1 (.inl rfl) rfl rfl ⟨rfl, rfl⟩
theorem fit04_any (w0 : World) (hG : Glob w0) : Calls Tryd.prog 29 #[] w0 fun e w' => e = .returned (.bool true) ∧ Chg (fun _ => False) w0 w' := by
  have hC := Chg.refl (fun _ => False) w0
  refine calls_cw (args := []) Tryd.func29 rfl rfl ?_
  show CW _ _ _ 47 [] w0
  refine CW.rseq ?_
  refine WL.op (by decide) (R.assign rfl) ?_
  refine WL.next ?_
  refine CW.rseq ?_
  refine WL.op (by decide) (R.build (parts := [(0, _), (1, _)]) (vals := [(0, _), (1, _)]) rfl (fun w => build25_2 [97] 1 w)) ?_
  refine WL.op (by decide) (R.build (parts := [(0, _), (5, _)]) (vals := [(0, _), (5, _)]) rfl (fun w => build33_05 258 [97] 1 w)) ?_
  refine WL.eff rfl (OP.allocM (by decide) ?_)
  intro w1 hc_w1 hs_w1 hB1
  obtain ⟨b1, he_b1⟩ : ∃ b, b = w0.heap.size := ⟨_, rfl⟩
  rw [← he_b1] at hB1 ⊢
  have hC := hC.trans hc_w1
  have hz_w1 := hc_w1.size
  refine WL.eff rfl (OP.storeM rfl rfl hB1 ?_)
  intro w2 hc_w2 hs_w2 hB1
  have hC := hC.thenB hc_w2 (by omega)
  refine WL.next ?_
  refine CW.rseq ?_
  refine WL.op (by decide) (R.loadM rfl hB1) ?_
  refine WL.eff rfl (OP.call (by decide) Tryd.func24 (by kernel_rfl) (by kernel_rfl) rfl (encode_src _ _ _ ⟨_, _, rfl, (RSl.nil _), (RSl.nil _)⟩ (MBack.quest (by decide) (by decide) (by kernel_rfl) (by decide))) ?_)
  rintro ed w3 ⟨gE, ceE, bsE, rfl, hbsE, hBufE, hSrcE, hmoreE, hdecE, hblE, hgeE, hglE, hc_w3⟩
  refine ⟨_, rfl, ?_⟩
  have hB1 := hc_w3.at hB1 (fun e => e)
  have hC := hC.trans hc_w3
  have hz_w3 := hc_w3.size
  have hK3 : Chg (fun _ => False) w3 w3 := Chg.refl _ _
  have hbe : bsE = [1, 2, 0, 0, 0, 1, 0, 0, 0, 0, 0, 0, 1, 97, 0, 0, 1, 0, 1] := hbsE.trans (by kernel_rfl)
  refine WL.op (by decide) (R.assign rfl) ?_
  refine WL.next ?_
  refine CW.rseq ?_
  refine WL.op (by decide) (R.move rfl) ?_
  refine WL.eff rfl (OP.call (by decide) Tryd.func27 (by kernel_rfl) (by kernel_rfl) rfl (decode_any _ _ _ _ _ (hSrcE.keep0 hK3) (by rintro _ _ ⟨⟩; omega) (by omega) (hG.keep0 hC)) ?_)
  rintro ed w4 ⟨hc_w4, hres⟩
  rw [hdecE] at hres
  obtain ⟨vD, rfl, vaD, vbD, rfl, hvaD, hvbD, hoaD, hobD⟩ := hres
  obtain ⟨AaD, caD, rfl, _⟩ := hvaD.form
  obtain ⟨AbD, cbD, rfl, _⟩ := hvbD.form
  have hlenD := len_dec hdecE
  refine ⟨_, rfl, ?_⟩
  have hB1 := hc_w4.at hB1 (fun e => e)
  have hC := hC.trans hc_w4
  have hK3 := hK3.trans hc_w4
  have hz_w4 := hc_w4.size
  have hK4 : Chg (fun _ => False) w4 w4 := Chg.refl _ _
  refine WL.op (by decide) (R.move rfl) ?_
  refine WL.op (by decide) (R.extract rfl rfl) ?_
  refine WL.op (by decide) (R.extract rfl rfl) ?_
  refine WL.eff rfl (OP.allocM (by decide) ?_)
  intro w5 hc_w5 hs_w5 hB3
  obtain ⟨b3, he_b3⟩ : ∃ b, b = w4.heap.size := ⟨_, rfl⟩
  rw [← he_b3] at hB3 ⊢
  have hB1 := hc_w5.at hB1 (fun e => e)
  have hC := hC.trans hc_w5
  have hK3 := hK3.trans hc_w5
  have hK4 := hK4.trans hc_w5
  have hz_w5 := hc_w5.size
  refine WL.eff rfl (OP.storeM rfl rfl hB3 ?_)
  intro w6 hc_w6 hs_w6 hB3
  have hB1 := hc_w6.at hB1 (fun e => by omega)
  have hC := hC.thenB hc_w6 (by omega)
  have hK3 := hK3.thenB hc_w6 (by omega)
  have hK4 := hK4.thenB hc_w6 (by omega)
  refine WL.op (by decide) (R.assign rfl) ?_
  refine WL.next ?_
  refine CW.rseq ?_
  refine WL.op (by decide) (R.move rfl) ?_
  refine WL.op (by decide) (R.lenSlice rfl Tryd.underlying36 rfl) ?_
  refine WL.op (by decide) (R.eql rfl rfl (decide_eq_true (by rw [hbe]; rfl))) ?_
  refine WL.op (by decide) (R.move rfl) ?_
  refine WL.gop (by decide) rfl rfl rfl (R.move rfl) ?_
  refine WL.gop (by decide) rfl rfl rfl (R.indexAddr1 (i := 0) Tryd.underlying36 sz5 rfl rfl rfl (by rw [hbe]; decide)) ?_
  refine WL.gop (by decide) rfl rfl rfl (R.load Tryd.underlying5 rfl rfl ((hSrcE.keep0 hK3).cellAt (b := 1) (by rw [hbe]; rfl))) ?_
  refine WL.gop (by decide) rfl rfl rfl (R.eql rfl rfl (decide_eq_true (rfl))) ?_
  refine WL.op (by decide) (R.pickT rfl rfl) ?_
  refine WL.op (by decide) (R.move rfl) ?_
  refine WL.gop (by decide) rfl rfl rfl (R.move rfl) ?_
  refine WL.gop (by decide) rfl rfl rfl (R.indexAddr1 (i := 1) Tryd.underlying36 sz5 rfl rfl rfl (by rw [hbe]; decide)) ?_
  refine WL.gop (by decide) rfl rfl rfl (R.load Tryd.underlying5 rfl rfl ((hSrcE.keep0 hK3).cellAt (b := 2) (by rw [hbe]; rfl))) ?_
  refine WL.gop (by decide) rfl rfl rfl (R.eql rfl rfl (decide_eq_true (rfl))) ?_
  refine WL.op (by decide) (R.pickT rfl rfl) ?_
  refine WL.op (by decide) (R.move rfl) ?_
  refine WL.gop (by decide) rfl rfl rfl (R.move rfl) ?_
  refine WL.gop (by decide) rfl rfl rfl (R.eql rfl rfl (decide_eq_true (rfl))) ?_
  refine WL.op (by decide) (R.pickT rfl rfl) ?_
  refine WL.op (by decide) (R.move rfl) ?_
  refine WL.gop (by decide) rfl rfl rfl (FA33_5 rfl) ?_
  refine WL.gop (by decide) rfl rfl rfl (R.loadQ rfl hB3) ?_
  refine WL.gop (by decide) rfl rfl rfl (FA33_5 rfl) ?_
  refine WL.gop (by decide) rfl rfl rfl (R.loadQ rfl hB1) ?_
  refine WL.gop (by decide) rfl rfl rfl (R.eql25 (c := true) rfl rfl (decide_eq_true ⟨rfl, rfl⟩)) ?_
  refine WL.op (by decide) (R.pickT rfl rfl) ?_
  refine WL.op (by decide) (R.move rfl) ?_
  refine WL.geff rfl rfl rfl (OP.call (by decide) Tryd.func40 (by kernel_rfl) (by kernel_rfl) rfl (right_any _ _ (by decide)) ?_)
  rintro ed _ ⟨rfl, rfl⟩
  refine ⟨_, rfl, ?_⟩
  refine WL.op (by decide) (R.pickT rfl rfl) ?_
  refine WL.op (by decide) (R.move rfl) ?_
  refine WL.geff rfl rfl rfl (OP.call (by decide) Tryd.func49 (by kernel_rfl) (by kernel_rfl) rfl (dots_any _ _) ?_)
  rintro ed _ ⟨rfl, rfl⟩
  refine ⟨_, rfl, ?_⟩
  refine WL.gop (by decide) rfl rfl rfl (R.eql rfl rfl (decide_eq_true (rfl))) ?_
  refine WL.op (by decide) (R.pickT rfl rfl) ?_
  refine WL.op (by decide) (R.assign rfl) ?_
  refine WL.next ?_
  refine CW.ret ?_
  exact EW.ret1 (.inl rfl) rfl rfl ⟨rfl, hC⟩
end Go.Proofs.YthcpjcgjmdfpjaaDoor

namespace Go.Proofs.YthcpjcgjmdfpjaaDoor
open Go Go.ChangeShapes Go.WideShapes Go.ChangeAt Go.RowKit
set_option maxRecDepth 100000

theorem Sl.keep0 {α : Type} {cells : α → List Value} {n : Nat} {w w' : World} {A : Option Addr} {m : Nat} {l : List α} (h : Sl cells n w A m l) (hc : Chg (fun _ => False) w w') : Sl cells n w' A m l := h.kept hc
theorem Sl.cellsAt {α : Type} {cells : α → List Value} {N : Nat} {w : World} {g o m : Nat} {ls : List α} (h : Sl cells N w (some ⟨g, o, none⟩) m ls) {j : Nat} {a : α} (hj : ls[j]? = some a) : ∀ i u, (cells a)[i]? = some u → w.cell? ⟨g, o + j * N + i, none⟩ = some u := by
  obtain ⟨_, g2, o2, hA, hc⟩ := h.at hj
  have hA2 := Option.some.inj hA
  injection hA2 with e1 e2
  subst e1 e2
  exact hc
/-- Where the tail of a slice lies. -/
def tailA (A : Option Addr) (N c : Nat) : Option Addr := A.map fun a => if c = 1 then a else ⟨a.block, a.off + N, none⟩
theorem Sl.tail {α : Type} {cells : α → List Value} {N : Nat} {w : World} {A : Option Addr} {m c : Nat} {ls : List α} (h : Sl cells N w A m ls) (hm : m ≤ c) (h1 : 1 ≤ m) : Sl cells N w (tailA A N c) (m - 1) (ls.drop 1) := by
  refine ⟨by rw [List.length_drop, h.1], fun h0 => ?_⟩
  obtain ⟨g, o, hA, hc⟩ := h.2 (by omega)
  subst hA
  refine ⟨g, o + N, ?_, fun j a i u hj hi => ?_⟩
  · unfold tailA
    rw [Option.map_some, if_neg (by omega)]
  · rw [List.getElem?_drop] at hj
    have := hc (1 + j) a i u hj hi
    rw [show o + N + j * N + i = o + (1 + j) * N + i by rw [Nat.add_mul, Nat.one_mul]; omega]
    exact this
theorem R.sliceTail {l : Env} {w : World} {x y : Operand} {t elem g ofs m cap N : Nat} {k1 : IntKind} {a : Int} (ht : Tryd.prog.underlying t = some (.slice elem)) (hs : (Tryd.prog.info? elem).map (·.size) = some N) (hx : ev l x = some (.slice (some ⟨g, ofs, none⟩) m cap)) (ha : ev l y = some (.int k1 a))
    (hea : a = 1) (h1 : 1 ≤ m) (h2 : m ≤ cap) :
    Runs Tryd.prog l (.slice t x (some y) none none) w (.slice (tailA (some ⟨g, ofs, none⟩) N cap) (m - 1) (cap - 1)) w := fun r _ _ _ _ _ he => by
  subst hea
  obtain ⟨inf, hi', hz⟩ := inf_of hs
  have hb2 : (Instr.sliceBound (.int k1 1) m .sliceB).run Tryd.prog w = .ok 1 w := by
    have := run_sliceBound (P := Tryd.prog) (w := w) k1 1 m .sliceB (by omega) (by omega)
    simpa using this
  have hbs : (Instr.sliceBounds true m cap (some (.int k1 1)) none none).run Tryd.prog w = .ok (1, m, cap) w := by
    simp [Instr.sliceBounds, hb2]
  have hat : (Instr.sliceAt t (.slice (some ⟨g, ofs, none⟩) m cap) (some (.int k1 1)) none none).run Tryd.prog w = .ok (.slice (tailA (some ⟨g, ofs, none⟩) N cap) (m - 1) (cap - 1)) w := by
    simp only [Instr.sliceAt, Instr.slice, Sem.run_bind, run_underlying ht, Result.andThen_ok, hbs, sizeOf, typeInfo, run_program, hi', hz, Sem.run_pure]
    unfold tailA
    by_cases hq : cap = 1 <;> simp [hq, Addr.add_none]
  simp only [execOp, he x _ hx, Option.map_some, Option.map_none, he y _ ha, Sem.run_bind, hat, Result.andThen_ok]
  rfl
theorem tail_ok {l : List SeedV} (h : ∀ s ∈ l, s.Ok) : ∀ s ∈ l.drop 1, s.Ok := fun s hs => h s (List.mem_of_mem_drop hs)
theorem tail_16 {l : List SeedV} (h : ∀ s ∈ l, s.Ok) : ∀ s ∈ l.drop 1, s.addr.length = 16 := fun s hs => (h s (List.mem_of_mem_drop hs)).a
/-- What is appended to bytes that are owned. -/
theorem appended {w w' : World} {base g c : Nat} {bs news : List UInt8} {v' : Value} (h0 : bs ≠ []) (hB : Buf w' base v' (bs ++ news)) (hM : Moved w w' (.slice (some ⟨g, 0, none⟩) bs.length c) v') (hg : g < w.heap.size) :
    ∃ g' c', v' = .slice (some ⟨g', 0, none⟩) (bs ++ news).length c' ∧ Src w' (some ⟨g', 0, none⟩) (bs ++ news).length c' (bs ++ news) ∧ Chg (fun k => k = g) w w' ∧ g' < w'.heap.size := by
  have hc := (Chg.moved hM).mono (S' := fun k => k = g) (fun k _ e => Option.some.inj e)
  obtain ⟨g', c', rfl, hge, hgl, hle, hcell⟩ := hB.open (by simp [h0])
  exact ⟨g', c', rfl, Buf.src2 (base := 0) hle hcell, hc, hgl⟩
theorem open_bytesN {H : Type} {enc : TypeId × Value → H} {W : World} {base : Nat} {v : Value} {d : DataW H} {p : List MemPlace} (hval : Value.okWide Tryd.prog W .any base 36 v) (hd : DataW.Trod enc Tryd.prog W 0 (fun _ => true) true 36 v d p) :
    ∃ A m c bs, v = .slice A m c ∧ Src W A m c bs ∧ (∀ g o, A = some ⟨g, o, none⟩ → g < W.heap.size) ∧ (A = none → c = 0) := by
  obtain ⟨A, m, c, bs, rfl, hS, hg⟩ := open_bytes hval hd
  refine ⟨A, m, c, bs, rfl, hS, hg, fun hA => ?_⟩
  subst hA
  obtain ⟨fuel, hf⟩ := hd
  have h3 : (Value.slice none m c).cells.toList = [.slice none m c] := rfl
  rcases DataW.trod_slice Tryd.underlying36 hf with ⟨h1, _⟩ | ⟨a, len, cap, _, _, _, _, h1, _⟩
  · rw [h3] at h1; injection h1 with h1 _; injection h1
  · rw [h3] at h1; injection h1 with h1 _; injection h1 with e _ _; cases e
theorem ne_of_dec {bs : List UInt8} {m : Msg} (h : decode bs = some m) : bs ≠ [] := by
  intro e; subst e; have := decode_ge h; simp at this
end Go.Proofs.YthcpjcgjmdfpjaaDoor

namespace Go.Proofs.YthcpjcgjmdfpjaaDoor
open Go Go.RowKit
set_option maxRecDepth 100000

/-- A name's bytes where nothing of it stands already. -/
def nmB : List (List UInt8) → List UInt8
  | [] => [0]
  | x :: xs => byteOf (x.length : Nat) :: x ++ nmB xs
theorem wr_flat : ∀ (ls : List (List UInt8)) (b : List UInt8) (at_ : At), (∀ x ∈ ls, Lab x) → (∀ e ∈ at_, (joinL ls).length < e.1.length) → (wrLabels ls b at_).1 = b ++ nmB ls
  | [], b, at_, _, _ => rfl
  | x :: xs, b, at_, hl, hg => by
    unfold wrLabels
    have hno : lookA at_ (joinL (x :: xs)) = none := by
      cases hlk : lookA at_ (joinL (x :: xs)) with
      | none => rfl
      | some p => have := hg _ (lookA_mem hlk); simp at this
    rw [hno]
    simp only
    have hsh := joinL_shorter (xs := xs) (hl x (by simp)).1
    rw [wr_flat xs _ _ (fun y hy => hl y (by simp [hy])) (by
      intro e he
      split at he
      · rcases List.mem_append.1 he with h | h
        · have := hg e h; omega
        · rw [List.mem_singleton.1 h]; exact hsh
      · have := hg e he; omega)]
    simp [nmB]
theorem nmB_length : ∀ (ls : List (List UInt8)), (nmB ls).length = wlen ls + 1
  | [] => rfl
  | x :: xs => by simp [nmB, wlen, nmB_length xs]; omega
theorem RN_flat {ls : List (List UInt8)} (hl : ∀ x ∈ ls, Lab x) : ∀ (p q : List UInt8), RN (p ++ nmB ls ++ q) p.length ls 0 (p.length + (nmB ls).length) := by
  induction ls with
  | nil =>
    intro p q
    have : (p ++ [0] ++ q)[p.length]? = some 0 := by rw [List.append_assoc, List.getElem?_append_right (Nat.le_refl _)]; simp
    exact RN.zero this
  | cons x xs ih =>
    intro p q
    have hx := hl x (by simp)
    have h := ih (fun y hy => hl y (by simp [hy])) (p ++ [byteOf (x.length : Nat)] ++ x) q
    have e0 : p ++ [byteOf (x.length : Nat)] ++ x ++ nmB xs ++ q = p ++ nmB (x :: xs) ++ q := by simp [nmB]
    have e1 : (p ++ [byteOf (x.length : Nat)] ++ x).length = p.length + 1 + x.length := by simp; omega
    have e2 : p.length + (nmB (x :: xs)).length = p.length + 1 + x.length + (nmB xs).length := by simp [nmB]; omega
    rw [e0, e1] at h
    rw [e2]
    have hc : (p ++ nmB (x :: xs) ++ q)[p.length]? = some (byteOf (x.length : Nat)) := by
      rw [List.append_assoc, List.getElem?_append_right (Nat.le_refl _)]; simp [nmB]
    have hd : ((p ++ nmB (x :: xs) ++ q).drop (p.length + 1)).take x.length = x := by
      have : p ++ nmB (x :: xs) ++ q = (p ++ [byteOf (x.length : Nat)]) ++ (x ++ (nmB xs ++ q)) := by simp [nmB]
      rw [this, List.drop_left' (by simp), List.take_left' rfl]
    exact RN.lab hc (byteOf_small (by have := hx.2.1; omega)) hx.1 hx.2.1 hd h

/-! ### Capitals -/
def Cap (c d : UInt8) : Prop := d = c ∨ (97 ≤ c.toNat ∧ c.toNat ≤ 122 ∧ d.toNat + 32 = c.toNat)
theorem cap_low {c d : UInt8} (h : Cap c d) : low1 d = low1 c := by
  rcases h with rfl | ⟨h1, h2, h3⟩
  · rfl
  · have e1 : low1 d = d + 32 := (low1_big (by omega) (by omega)).1
    have e2 : low1 c = c := low1_not (by omega)
    rw [e1, e2]
    apply UInt8.toNat_inj.1
    rw [UInt8.toNat_add]
    have : (32 : UInt8).toNat = 32 := rfl
    omega
theorem cap_small {c d : UInt8} (h : Cap c d) (hc : c.toNat < 97) : d = c := by
  rcases h with h | h
  · exact h
  · omega
def CapL (b d : List UInt8) : Prop := d.length = b.length ∧ ∀ (j : Nat) c, b[j]? = some c → ∃ e, d[j]? = some e ∧ Cap c e
theorem lower_cap {x y : List UInt8} (h : CapL x y) : lower y = lower x := by
  apply List.ext_getElem?
  intro j
  unfold lower
  rw [List.getElem?_map, List.getElem?_map]
  cases hj : x[j]? with
  | none =>
    have := List.getElem?_eq_none_iff.1 hj
    rw [List.getElem?_eq_none (by have := h.1; omega)]
  | some c =>
    obtain ⟨e, he, hc⟩ := h.2 j c hj
    rw [he]; simp [cap_low hc]
theorem RN.cap {b d : List UInt8} (hbd : CapL b d) {a e h : Nat} {ls : List (List UInt8)} (hr : RN b a ls h e) : h = 0 → ∃ ms, RN d a ms 0 e ∧ ms.map lower = ls.map lower ∧ wlen ms = wlen ls ∧ ms.length = ls.length := by
  induction hr with
  | zero h0 =>
    intro _
    obtain ⟨e, he, hc⟩ := hbd.2 _ _ h0
    obtain rfl := cap_small hc (by decide)
    exact ⟨[], .zero he, rfl, rfl, rfl⟩
  | @lab a h e x ls c hc hn h0 h63 hx hr ih =>
    intro hh
    subst hh
    obtain ⟨ms, h1, h2, h3, h4⟩ := ih rfl
    obtain ⟨e', he, hcc⟩ := hbd.2 _ _ hc
    obtain rfl := cap_small hcc (by omega)
    have hlt := take_len hx
    have hyl : ((d.drop (a + 1)).take x.length).length = x.length := by
      rw [List.length_take, List.length_drop, hbd.1]; omega
    have hcap : CapL x ((d.drop (a + 1)).take x.length) := by
      refine ⟨hyl, fun j c hj => ?_⟩
      have hjl := (List.getElem?_eq_some_iff.1 hj).1
      rw [← hx, List.getElem?_take_of_lt hjl, List.getElem?_drop] at hj
      obtain ⟨e2, he2, hc2⟩ := hbd.2 _ _ hj
      exact ⟨e2, by rw [List.getElem?_take_of_lt hjl, List.getElem?_drop]; exact he2, hc2⟩
    refine ⟨(d.drop (a + 1)).take x.length :: ms, RN.lab he (by rw [hyl]; exact hn) (by omega) (by omega) (by rw [hyl]) (by rw [hyl]; exact h1), ?_, ?_, ?_⟩
    · simp [h2, lower_cap hcap]
    · simp [wlen, h3, hyl]
    · simp [h4]
  | ptr => intro hh; cases hh

theorem part12 {b d : List UInt8} (h : d.take 12 = b.take 12) (k n : Nat) (hk : k + n ≤ 12) : (d.drop k).take n = (b.drop k).take n := by
  have key : ∀ l : List UInt8, (l.drop k).take n = ((l.take 12).drop k).take n := by
    intro l
    rw [List.drop_take, List.take_take, Nat.min_eq_left (by omega)]
  rw [key, key b, h]
/-- Bytes that differ in the question's name alone, which is read alike. -/
theorem decode_same {b d nm : List UInt8} {e : Nat} {m : Msg} (hl : d.length = b.length) (hh : d.take 12 = b.take 12) (hn : rdName b 300 12 0 0 [] 12 = some (nm, e)) (hn' : rdName d 300 12 0 0 [] 12 = some (nm, e)) (hd : d.drop e = b.drop e)
    (h : decode b = some m) (ha : m.ans = []) (hu : m.auth = []) : decode d = some m := by
  have p0 : d.take 2 = b.take 2 := by have := part12 hh 0 2 (by omega); simpa using this
  have p2 := part12 hh 2 2 (by omega)
  have p4 := part12 hh 4 2 (by omega)
  have p6 := part12 hh 6 2 (by omega)
  have p8 := part12 hh 8 2 (by omega)
  have q0 : (d.drop e).take 2 = (b.drop e).take 2 := by rw [hd]
  have q2 : (d.drop (e + 2)).take 2 = (b.drop (e + 2)).take 2 := by rw [← List.drop_drop, ← List.drop_drop, hd]
  unfold decode at h ⊢
  rw [hl, p0, p2, p4, p6, p8, hn']
  rw [hn] at h
  split at h
  · cases h
  rename_i g1
  rw [if_neg g1]
  split at h
  · cases h
  rename_i g2
  rw [if_neg g2]
  split at h
  · cases h
  rename_i g3
  rw [if_neg g3]
  split at h
  · cases h
  rename_i g4
  rw [if_neg g4]
  simp only at h ⊢
  split at h
  · cases h
  rename_i g5
  rw [if_neg g5, q2, q0]
  split at h
  · cases h
  rename_i g6
  rw [if_neg g6]
  split at h
  · cases h
  rename_i an a2 hr1
  split at h
  · cases h
  rename_i au a3 hr2
  have hm : finM _ = some m := h
  have hm2 := h
  unfold finM at hm2
  split at hm2
  · have hm3 := Option.some.inj hm2
    have e1 : an = [] := by rw [← hm3] at ha; exact ha
    have e2 : au = [] := by rw [← hm3] at hu; exact hu
    subst e1 e2
    have k1 := (readRecs_ok hr1).1
    have k2 := (readRecs_ok hr2).1
    rw [← k1, ← k2]
    simp only [List.length_nil, readRecs]
    exact h
  · cases hm2
end Go.Proofs.YthcpjcgjmdfpjaaDoor

namespace Go.Proofs.YthcpjcgjmdfpjaaDoor
open Go Go.RowKit
set_option maxRecDepth 100000

theorem lookA_app {k : List UInt8} {p : Nat} : ∀ {at_ : At} (more : At), lookA at_ k = some p → lookA (at_ ++ more) k = some p
  | [], _, h => by cases h
  | (s, q) :: r, more, h => by
    rw [List.cons_append]
    unfold lookA at h ⊢
    split
    · rename_i e; rw [if_pos e] at h; exact h
    · rename_i e; rw [if_neg e] at h; exact lookA_app more h
theorem wr_keeps : ∀ (ls : List (List UInt8)) (b : List UInt8) (at_ : At), ∃ more, (wrLabels ls b at_).2 = at_ ++ more
  | [], b, at_ => ⟨[], by simp [wrLabels]⟩
  | x :: xs, b, at_ => by
    unfold wrLabels
    cases lookA at_ (joinL (x :: xs)) with
    | some p => exact ⟨[], by simp⟩
    | none =>
      simp only
      obtain ⟨more, h⟩ := wr_keeps xs (b ++ [byteOf (x.length : Nat)] ++ x) (if b.length < 16384 then at_ ++ [(joinL (x :: xs), b.length)] else at_)
      rw [h]
      split
      · exact ⟨[(joinL (x :: xs), b.length)] ++ more, by simp⟩
      · exact ⟨more, rfl⟩
theorem wr_has {s b : List UInt8} (hb : b.length < 16384) : lookA (wrName s (b, [])).2 s = some b.length := by
  have hj := join_split s
  cases hs : splitL s with
  | nil => exact absurd hs (splitL_ne s)
  | cons x xs =>
    rw [hs] at hj
    unfold wrName
    rw [hs]
    unfold wrLabels
    simp only [lookA]
    rw [if_pos hb, hj]
    obtain ⟨more, h⟩ := wr_keeps xs (b ++ [byteOf (x.length : Nat)] ++ x) ([] ++ [(s, b.length)])
    rw [h]
    exact lookA_app more (by simp [lookA])
theorem wr_there {s b : List UInt8} {at_ : At} {p : Nat} (h : lookA at_ s = some p) : wrName s (b, at_) = (b ++ beN 2 ((49152 ||| p : Nat) : Int), at_) := by
  have hj := join_split s
  cases hs : splitL s with
  | nil => exact absurd hs (splitL_ne s)
  | cons x xs =>
    rw [hs] at hj
    unfold wrName
    rw [hs]
    unfold wrLabels
    rw [hj, h]
def placeR (s : List UInt8) : Rec := ⟨s, 5, 0, zero16, s, []⟩
theorem rec_there {s b : List UInt8} {at_ : At} {p : Nat} (h : lookA at_ s = some p) : ∃ b', wrRec (placeR s) (b, at_) = (b', at_) ∧ b'.length = b.length + 14 := by
  have h1 : wrName (placeR s).name (b, at_) = (b ++ beN 2 ((49152 ||| p : Nat) : Int), at_) := wr_there h
  have h2 : ∀ b2, wrBody (placeR s) b2 at_ = (b2 ++ beN 2 ((49152 ||| p : Nat) : Int), at_) := by
    intro b2
    rw [body3 (by simp [placeR])]
    have : wrName (placeR s).text (b2, at_) = (b2 ++ beN 2 ((49152 ||| p : Nat) : Int), at_) := wr_there h
    rw [this]
  unfold wrRec
  simp only [h1, h2]
  exact ⟨_, rfl, by rw [setN_length]; simp [wrHead_length, beN_length]⟩
theorem recs_there {s : List UInt8} {at_ : At} {p : Nat} (h : lookA at_ s = some p) : ∀ (k : Nat) (b : List UInt8), ∃ b', wrRecs (List.replicate k (placeR s)) (b, at_) = (b', at_) ∧ b'.length = b.length + 14 * k
  | 0, b => ⟨b, rfl, rfl⟩
  | k + 1, b => by
    obtain ⟨b1, h1, h2⟩ := rec_there (b := b) h
    obtain ⟨b2, h3, h4⟩ := recs_there h k b1
    refine ⟨b2, ?_, by omega⟩
    rw [List.replicate_succ]
    show wrRecs (List.replicate k (placeR s)) (wrRec (placeR s) (b, at_)) = _
    rw [h1, h3]
theorem name_len {s b : List UInt8} (hn : namesL s = true) : (wrName s (b, [])).1 = b ++ nmB (splitL s) := wr_flat _ _ _ (names_lab hn) (fun _ h => by cases h)
theorem nm_length (s : List UInt8) : (nmB (splitL s)).length = s.length + 2 := by rw [nmB_length, wlen_split]
/-- A question's bytes. -/
theorem enc_quest {m : Msg} (hn : namesL m.qname = true) (ha : m.ans = []) (hu : m.auth = []) : enc m = (headNums m).flatMap (beN 2) ++ nmB (splitL m.qname) ++ (beN 2 m.qtype ++ beN 2 1) := by
  unfold enc
  rw [ha, hu, name_len hn]
  simp [wrRecs]
theorem head_len (m : Msg) : ((headNums m).flatMap (beN 2)).length = 12 := by simp [headNums, beN_length]
/-- A message whose records' names all are the question's. -/
theorem places_len {s : List UInt8} (k : Nat) (hn : namesL s = true) : (enc ⟨0, false, false, false, 0, s, 1, List.replicate k (placeR s), []⟩).length = 12 + s.length + 2 + 4 + 14 * k := by
  obtain ⟨hd, hhd⟩ : ∃ hd, hd = (headNums ⟨0, false, false, false, 0, s, 1, List.replicate k (placeR s), []⟩).flatMap (beN 2) := ⟨_, rfl⟩
  have hl : hd.length = 12 := by rw [hhd]; exact head_len _
  obtain ⟨at1, hat⟩ : ∃ a, a = (wrName s (hd, [])).2 := ⟨_, rfl⟩
  have hlk : lookA at1 s = some hd.length := by rw [hat]; exact wr_has (by omega)
  obtain ⟨b2, h1, h2⟩ := recs_there hlk k (hd ++ nmB (splitL s) ++ beN 2 1 ++ beN 2 1)
  have he : enc ⟨0, false, false, false, 0, s, 1, List.replicate k (placeR s), []⟩ = (wrRecs [] (wrRecs (List.replicate k (placeR s)) ((wrName s (hd, [])).1 ++ beN 2 1 ++ beN 2 1, (wrName s (hd, [])).2))).1 := by rw [hhd]; rfl
  rw [he, ← hat, name_len hn, h1]
  show b2.length = _
  rw [h2]
  simp only [List.length_append, hl, nm_length, beN_length]
  omega

/-! ### Capitals on the way -/
theorem take_capL {b d : List UInt8} {k : Nat} (h : CapL b d) (heq : ∀ (j : Nat) c, j < k → b[j]? = some c → d[j]? = some c) : d.take k = b.take k := by
  apply List.ext_getElem?
  intro j
  by_cases hj : j < k
  · rw [List.getElem?_take_of_lt hj, List.getElem?_take_of_lt hj]
    cases hb : b[j]? with
    | none => have := List.getElem?_eq_none_iff.1 hb; rw [List.getElem?_eq_none (by have := h.1; omega)]
    | some c => rw [heq j c hj hb]
  · rw [List.getElem?_eq_none (by rw [List.length_take]; omega), List.getElem?_eq_none (by rw [List.length_take]; omega)]
theorem drop_capL {b d : List UInt8} {k : Nat} (h : CapL b d) (heq : ∀ (j : Nat) c, k ≤ j → b[j]? = some c → d[j]? = some c) : d.drop k = b.drop k := by
  apply List.ext_getElem?
  intro j
  rw [List.getElem?_drop, List.getElem?_drop]
  cases hb : b[k + j]? with
  | none => have := List.getElem?_eq_none_iff.1 hb; rw [List.getElem?_eq_none (by have := h.1; omega)]
  | some c => rw [heq (k + j) c (by omega) hb]
/-- A question whose name has capitals on the way is read as it was. -/
theorem caps_read {m : Msg} {d : List UInt8} (hb : MBack m) (ha : m.ans = []) (hu : m.auth = []) (hc : CapL (enc m) d) (heq : ∀ (j : Nat) c, j < 13 ∨ 12 + m.qname.length + 1 ≤ j → (enc m)[j]? = some c → d[j]? = some c) : decode d = some m := by
  have hq := (all_parts hb.all).2.2.2.2.1
  have he := enc_quest hq ha hu
  have hhl := head_len m
  have hlab := names_lab hq
  have hw := wlen_split m.qname
  have hl := names_len hq
  have hrn := RN_flat hlab ((headNums m).flatMap (beN 2)) (beN 2 m.qtype ++ beN 2 1)
  rw [← he, hhl, nm_length] at hrn
  obtain ⟨ms, h1, h2, h3, h4⟩ := hrn.cap hc rfl
  have hgood : namesL (joinL ([] ++ (splitL m.qname).map lower)) = true := by rw [List.nil_append, names_lower hq, join_split]; exact hq
  have hs16 := hb.q
  have r1 := rd_of_RN hrn 300 0 0 [] 12 (by omega) (by omega) (by omega) hgood
  have r2 := rd_of_RN h1 300 0 0 [] 12 (by omega) (by omega) (by omega) (by rw [h2]; exact hgood)
  rw [h2] at r2
  exact decode_same hc.1 (take_capL hc (fun j c hj hb => heq j c (.inl (by omega)) hb)) r1 r2 (drop_capL hc (fun j c hj hb => heq j c (.inr (by rw [if_pos rfl] at hj; omega)) hb)) (back0 hb) ha hu
end Go.Proofs.YthcpjcgjmdfpjaaDoor

namespace Go.Proofs.YthcpjcgjmdfpjaaDoor
open Go Go.RowKit
set_option maxRecDepth 100000

section
variable {l : Env} {w : World} {x y : Operand} {t ty : TypeId} {P : Program}
theorem R.maskN (k : Nat) {n m r : Int} (hx : ev l x = some (.int .i64 n)) (hy : ev l y = some (.int .i64 m)) (hk : k ≤ 62) (hm : m = ((2 ^ k - 1 : Nat) : Int)) (h : n % ((2 ^ k : Nat) : Int) = r) : Runs P l (.binOp .and t x y ty) w (.int .i64 r) w := by
  subst h
  exact R.mask k hx hy hk hm rfl
end
theorem build33_5 (s : List UInt8) (t : Int) (w : World) : (Instr.build 33 #[(5, .agg #[sv s, .int .i64 t])]).run Tryd.prog w = .ok (.agg (Msg.cells ⟨0, false, false, false, 0, s, t, [], []⟩ (.slice none 0 0) (.slice none 0 0)).toArray) w := by unfold sv; kernel_rfl
theorem build33_056 (id : Int) (s : List UInt8) (t : Int) (A : Option Addr) (m c : Nat) (r : Rec) (w : World) : (Instr.build 33 #[(0, .int .i64 id), (5, .agg #[sv s, .int .i64 t]), (6, .slice A m c)]).run Tryd.prog w = .ok (.agg (Msg.cells ⟨id, false, false, false, 0, s, t, [r], []⟩ (.slice A m c) (.slice none 0 0)).toArray) w := by unfold sv; kernel_rfl
theorem build27_v4 (b : UInt8) (w : World) : (Instr.build 27 #[(10, .int .u8 255), (11, .int .u8 255), (15, u8v b)]).run Tryd.prog w = .ok (.agg ((mappedL ++ [0, 0, 0, b]).map u8v).toArray) w := by kernel_rfl
theorem build57_013 (s : List UInt8) (t : Int) {a : List UInt8} (h : a.length = 16) (w : World) : (Instr.build 57 #[(0, sv s), (1, .int .i64 t), (3, .agg (a.map u8v).toArray)]).run Tryd.prog w = .ok (Rec.val ⟨s, t, 0, a, [], []⟩) w := by
  obtain ⟨a0, a1, a2, a3, a4, a5, a6, a7, a8, a9, b0, b1, b2, b3, b4, b5, rfl⟩ := list16 h
  unfold sv; kernel_rfl
theorem build57_0123 (s : List UInt8) (t ttl : Int) {a : List UInt8} (h : a.length = 16) (w : World) : (Instr.build 57 #[(0, sv s), (1, .int .i64 t), (2, .int .i64 ttl), (3, .agg (a.map u8v).toArray)]).run Tryd.prog w = .ok (Rec.val ⟨s, t, ttl, a, [], []⟩) w := by
  obtain ⟨a0, a1, a2, a3, a4, a5, a6, a7, a8, a9, b0, b1, b2, b3, b4, b5, rfl⟩ := list16 h
  unfold sv; kernel_rfl
theorem build57_014 (s u : List UInt8) (t : Int) (w : World) : (Instr.build 57 #[(0, sv s), (1, .int .i64 t), (4, sv u)]).run Tryd.prog w = .ok (Rec.val ⟨s, t, 0, zero16, u, []⟩) w := by unfold sv; kernel_rfl
theorem build57_015 (s u : List UInt8) (t : Int) (w : World) : (Instr.build 57 #[(0, sv s), (1, .int .i64 t), (5, sv u)]).run Tryd.prog w = .ok (Rec.val ⟨s, t, 0, zero16, [], u⟩) w := by unfold sv; kernel_rfl
theorem RSl.one {w : World} {b c : Nat} {r : Rec} (hb : w.heap[b]? = some (.cells r.cells.toArray 57 (0, 0))) (h : r.addr.length = 16) (hc : 1 ≤ c) : RSl w (.slice (some ⟨b, 0, none⟩) 1 c) [r] := by
  refine ⟨fun x hx => by rw [List.mem_singleton.1 hx]; exact h, some ⟨b, 0, none⟩, c, rfl, hc, fun _ => ⟨b, 0, rfl, fun j u hj => ?_⟩⟩
  rw [Nat.zero_add]
  exact cell_at hb (by rw [List.getElem?_toArray]; simpa [flatR] using hj)
/-- An append of one record, told by how many there are. -/
theorem appended_rec {w' : World} {base j : Nat} {v' : Value} {rs : List Rec} {r : Rec} (hl : rs.length = j) (hN : RBuf w' base v' (rs ++ [r])) : ∃ A c, v' = .slice A (j + 1) c := by
  obtain ⟨A, c, h, _⟩ := hN.sl.form
  exact ⟨A, c, by rw [h, List.length_append, hl]; rfl⟩

/-! ### MsgCounts -/
def cntR (N : Nat) : Rec := ⟨[97], 1, 0, mappedL ++ [0, 0, 0, byteOf (N : Int)], [], []⟩
def cntM (N j : Nat) : Msg := ⟨0, false, false, false, 0, [97], 1, List.replicate j (cntR N), []⟩
theorem cntR_16 (N : Nat) : (cntR N).addr.length = 16 := rfl
theorem cntR_right (N : Nat) : rightR (cntR N) = true := by
  have h1 : namesL [97] = true := by kernel_rfl
  have h2 : (mappedL ++ [0, 0, 0, byteOf (N : Int)]).take 12 = mappedL := List.take_left' rfl
  unfold rightR cntR
  simp [h1, h2]
theorem cnt_back {N : Nat} (h : N ≤ 32) : MBack (cntM N N) := by
  have h1 : namesL [97] = true := by kernel_rfl
  refine ⟨?_, Nat.le_of_ble_eq_true rfl, fun r hr => ?_⟩
  · unfold allM cntM
    simp [h1, h, cntR_right]
  · have : r = cntR N := by simpa [cntM] using (List.eq_of_mem_replicate (by simpa [cntM] using hr))
    subst this
    exact ⟨rfl, Nat.le_of_ble_eq_true rfl, Nat.le_of_ble_eq_true rfl⟩
theorem cnt_bad {N : Nat} (h : 32 < N) : allM (cntM N N) = false := by
  unfold allM cntM
  have : ¬ N ≤ 32 := by omega
  simp [this]
theorem cnt_small {N j : Nat} (h : j ≤ 64) : (cntM N j).small := by
  refine ⟨Nat.le_of_ble_eq_true rfl, by simp [cntM]; omega, by simp [cntM], fun r hr => ?_⟩
  have : r = cntR N := by simpa [cntM] using (List.eq_of_mem_replicate (by simpa [cntM] using hr))
  subst this
  exact ⟨Nat.le_of_ble_eq_true rfl, Nat.le_of_ble_eq_true rfl, Nat.le_of_ble_eq_true rfl⟩

/-! ### MsgPlaces -/
def plcM (s : List UInt8) (j : Nat) : Msg := ⟨0, false, false, false, 0, s, 1, List.replicate j (placeR s), []⟩
theorem placeR_right {s : List UInt8} (h : namesL s = true) : rightR (placeR s) = true := by
  unfold rightR placeR
  simp [h]
theorem plc_back {s : List UInt8} {j : Nat} (h : namesL s = true) (hs : (splitL s).length ≤ 16) (hj : j ≤ 32) : MBack (plcM s j) := by
  refine ⟨?_, hs, fun r hr => ?_⟩
  · unfold allM plcM
    simp [h, hj, placeR_right h]
  · have : r = placeR s := by simpa [plcM] using (List.eq_of_mem_replicate (by simpa [plcM] using hr))
    subst this
    exact ⟨rfl, hs, hs⟩
theorem plc_len {s : List UInt8} {j : Nat} {bs : List UInt8} (h : namesL s = true) (hb : bs = enc (plcM s j)) : bs.length = 12 + s.length + 2 + 4 + 14 * j := by
  rw [hb]; exact places_len j h

/-! ### MsgHeads -/
def hdR : Rec := ⟨[97, 46, 98], 16, 0, zero16, [], [120]⟩
def hdM (i : Int) : Msg := ⟨i, false, false, false, 0, [97, 46, 98], 1, [hdR], []⟩
theorem hd_back {i : Int} (h : 0 ≤ i ∧ i ≤ 65535) : MBack (hdM i) := by
  have h1 : namesL [97, 46, 98] = true := by kernel_rfl
  have h2 : rightR hdR = true := by kernel_rfl
  refine ⟨?_, Nat.le_of_ble_eq_true rfl, fun r hr => ?_⟩
  · unfold allM hdM
    simp [h1, h2, h]
  · have : r = hdR := by simpa [hdM] using hr
    subst this
    exact ⟨rfl, Nat.le_of_ble_eq_true rfl, Nat.le_of_ble_eq_true rfl⟩
def hdB (x y : UInt8) : List UInt8 := [x, y, 0, 0, 0, 1, 0, 1, 0, 0, 0, 0, 1, 97, 1, 98, 0, 0, 1, 0, 1, 192, 12, 0, 16, 0, 1, 0, 0, 0, 0, 0, 1, 120]
theorem hd_enc (i : Int) : ∃ x y, enc (hdM i) = hdB x y := ⟨byteOf (i / 2 ^ (8 * 1)), byteOf (i / 2 ^ (8 * 0)), by kernel_rfl⟩
theorem hd0 (x y : UInt8) : decode ((hdB x y).set 2 8) = none := by kernel_rfl
theorem hd1 (x y : UInt8) : decode ((hdB x y).set 5 2) = none := by kernel_rfl
theorem hd2 (x y : UInt8) : decode ((hdB x y).set 20 2) = none := by kernel_rfl
theorem hd3 (x y : UInt8) : decode ((hdB x y).set 22 40) = none := by kernel_rfl
theorem hd4 (x y : UInt8) : decode ((hdB x y).set 21 255) = none := by kernel_rfl
theorem tm5 (n : Int) : -5 < n.tmod 5 ∧ n.tmod 5 < 5 := by
  have h1 := Int.tmod_lt_of_pos n (show (0 : Int) < 5 by decide)
  have h2 := Int.lt_tmod_of_pos n (show (0 : Int) < 5 by decide)
  omega
theorem K5 (n : Int) : (n.tmod 5 + 5) % 5 = 0 ∨ (n.tmod 5 + 5) % 5 = 1 ∨ (n.tmod 5 + 5) % 5 = 2 ∨ (n.tmod 5 + 5) % 5 = 3 ∨ (n.tmod 5 + 5) % 5 = 4 := by omega
theorem R.remC {l : Env} {w : World} {x y : Operand} {t ty : TypeId} {P : Program} {a b r : Int} (hx : ev l x = some (.int .i64 a)) (hy : ev l y = some (.int .i64 b)) (h : b ≠ 0) (ha : 0 ≤ a) (hr : a % b = r) : Runs P l (.binOp .rem t x y ty) w (.int .i64 r) w := by
  subst hr
  exact R.remN hx hy h ha
theorem build86 (w : World) : (Instr.build 86 #[(0, .int .i64 2), (1, .int .i64 5), (2, .int .i64 20), (3, .int .i64 22), (4, .int .i64 21)]).run Tryd.prog w = .ok (.agg #[.int .i64 2, .int .i64 5, .int .i64 20, .int .i64 22, .int .i64 21]) w := by kernel_rfl
theorem build87 (w : World) : (Instr.build 87 #[(0, .int .u8 8), (1, .int .u8 2), (2, .int .u8 2), (3, .int .u8 40), (4, .int .u8 255)]).run Tryd.prog w = .ok (.agg #[u8v 8, u8v 2, u8v 2, u8v 40, u8v 255]) w := by kernel_rfl
theorem Src.nil (w : World) : Src w none 0 0 [] := ⟨rfl, Nat.le_refl _, fun h => absurd rfl h⟩
/-- Bytes that are owned, as a source. -/
theorem Buf.toSrc {w : World} {base g m c : Nat} {bs : List UInt8} (h : Buf w base (.slice (some ⟨g, 0, none⟩) m c) bs) (h0 : bs ≠ []) : Src w (some ⟨g, 0, none⟩) m c bs := by
  obtain ⟨g', c', he, _, _, hle, hcell⟩ := h.open h0
  injection he with e1 e2 e3
  injection e1 with e1
  injection e1 with e1
  subst e1 e2 e3
  exact Buf.src2 (base := 0) hle hcell
end Go.Proofs.YthcpjcgjmdfpjaaDoor

namespace Go.Proofs.YthcpjcgjmdfpjaaDoor
open Go Go.RowKit
set_option maxRecDepth 100000
set_option maxHeartbeats 4000000

theorem dec_two {base : Nat} {bs : List UInt8} {e : Ending} {w : World} (h : DecRes base (decode bs) e w) : (decode bs = none ∧ e = .returned (.tuple #[zeroMV, .int .i64 4])) ∨
    (∃ M, decode bs = some M ∧ ∃ va vb, e = .returned (.tuple #[.agg (M.cells va vb).toArray, .int .i64 0]) ∧ RSl w va M.ans ∧ RSl w vb M.auth ∧ (∀ k, va.ownBlock = some k → base ≤ k) ∧ (∀ k, vb.ownBlock = some k → base ≤ k)) := by
  cases hd : decode bs with
  | none => rw [hd] at h; exact .inl ⟨rfl, h⟩
  | some M =>
    rw [hd] at h
    obtain ⟨v, rfl, va, vb, rfl, h1, h2, h3, h4⟩ := h
    exact .inr ⟨M, rfl, va, vb, rfl, h1, h2, h3, h4⟩
theorem tiny_all {m : Msg} (h : allM m = true) : m.tiny := by
  obtain ⟨_, _, hc1, hc2, hq, _, _, hn, ha, hu⟩ := all_parts h
  refine ⟨by have := (names_len hq).1; omega, by omega, fun r hr => ?_, by omega⟩
  have hr1 : rightR r = true := by
    rcases List.mem_append.1 hr with h | h
    · exact List.all_eq_true.1 ha r h
    · exact List.all_eq_true.1 hu r h
  obtain ⟨h1, _, _, hc⟩ := right_parts hr1
  have hl1 := (names_len h1).1
  rcases hc with ⟨_, e1, e2, _⟩ | ⟨_, e1, e2⟩ | ⟨_, e1, _, e2⟩ | ⟨_, _, _, _, _, e1, _, e2⟩
  · exact ⟨by omega, by simp [e1], by simp [e2]⟩
  · exact ⟨by omega, by simp [e1], by simp [e2]⟩
  · have := (names_len e2).1
    exact ⟨by omega, by omega, by simp [e1]⟩
  · exact ⟨by omega, by simp [e1], by omega⟩
theorem small_all {m : Msg} (h : allM m = true) : m.small := by
  obtain ⟨h1, h2, h3, _⟩ := tiny_all h
  exact ⟨by omega, by omega, by omega, fun r hr => by obtain ⟨a, b, c⟩ := h3 r hr; exact ⟨by omega, by omega, by omega⟩⟩
theorem Buf.lit {w : World} {base b : Nat} {bs : List UInt8} (hb : w.heap[b]? = some (.cells (bs.map u8v).toArray 5 (0, 0))) (hl : bs.length ≤ maxLen) (h : base ≤ b) : Buf w base (.slice (some ⟨b, 0, none⟩) bs.length bs.length) bs :=
  ⟨by simp, .inr ⟨b, bs.length, _, rfl, h, hb, Nat.le_refl _, hl, by simp, by simp [List.take_of_length_le]⟩⟩
theorem slice_lit (w : World) : (Instr.buildSlice 36 12 #[(0, .int .u8 0), (1, .int .u8 1), (2, .int .u8 129), (3, .int .u8 128), (4, .int .u8 0), (5, .int .u8 1), (6, .int .u8 0), (7, .int .u8 1), (8, .int .u8 0), (9, .int .u8 0), (10, .int .u8 0), (11, .int .u8 0)]).run Tryd.prog w = .ok (.slice (some ⟨w.heap.size, 0, none⟩) 12 12) (w.alloc (.cells (([0, 1, 129, 128, 0, 1, 0, 1, 0, 0, 0, 0] : List UInt8).map u8v).toArray 5)) := by kernel_rfl
theorem build33_nil (w : World) : (Instr.build 33 #[]).run Tryd.prog w = .ok (.agg (Msg.cells ⟨0, false, false, false, 0, [], 0, [], []⟩ (.slice none 0 0) (.slice none 0 0)).toArray) w := by kernel_rfl
/-- What is read behind a head of one answer. -/
theorem junk_dec {bs : List UInt8} {N : Msg} (h : decode ([0, 1, 129, 128, 0, 1, 0, 1, 0, 0, 0, 0] ++ bs) = some N) : N.ans.length = 1 ∧ N.id = 1 := by
  have e0 : beNat (([0, 1, 129, 128, 0, 1, 0, 1, 0, 0, 0, 0] ++ bs).take 2) = 1 := by simp [beNat]
  have e6 : beNat ((([0, 1, 129, 128, 0, 1, 0, 1, 0, 0, 0, 0] ++ bs).drop 6).take 2) = 1 := by simp [beNat]
  unfold decode at h
  rw [e0, e6] at h
  split at h
  · cases h
  split at h
  · cases h
  split at h
  · cases h
  split at h
  · cases h
  split at h
  · cases h
  split at h
  · cases h
  split at h
  · cases h
  split at h
  · cases h
  rename_i an a2 hr1
  split at h
  · cases h
  unfold finM at h
  split at h
  · have hm := Option.some.inj h
    rw [← hm]
    exact ⟨(readRecs_ok hr1).1, rfl⟩
  · cases h
theorem msgJunk_any (A : Option Addr) (m c : Nat) (bs : List UInt8) (w0 : World) (hS : Src w0 A m c bs) (hgl : ∀ g o, A = some ⟨g, o, none⟩ → g < w0.heap.size) (hA0 : A = none → c = 0) (hG : Glob w0) : Calls Tryd.prog 7 #[.slice A m c] w0 fun e w' => e = .returned (.bool true) ∧ Chg (fun _ => False) w0 w' := by
  have hC := Chg.refl (fun _ => False) w0
  have hml := hS.len
  refine calls_cw (args := [.slice A m c]) Tryd.func7 rfl rfl ?_
  show CW _ _ _ 64 [(0, .slice A m c)] w0
  refine CW.rseq ?_
  refine WL.op (by decide) (R.assign rfl) ?_
  refine WL.next ?_
  refine CW.seq ?_
  refine CW.rseq ?_
  refine WL.eff rfl (OP.call (by decide) Tryd.func29 (by kernel_rfl) (by kernel_rfl) rfl (fit04_any _ (hG.keep0 hC)) ?_)
  rintro ed w1 ⟨rfl, hc_w1⟩
  refine ⟨_, rfl, ?_⟩
  have hC := hC.trans hc_w1
  have hz_w1 := hc_w1.size
  refine WL.op (by decide) (R.not rfl) ?_
  refine WL.next ?_
  refine CW.condF rfl ?_
  refine CW.skip ?_
  refine EW.next ?_
  refine CW.seq ?_
  refine CW.rseq ?_
  refine WL.op (by decide) (R.move rfl) ?_
  refine WL.op (by decide) (R.lenSlice rfl Tryd.underlying36 rfl) ?_
  refine WL.gtrS (by decide) rfl rfl (fun h1 => ?_) (fun h1 => ?_)
  · skip
    refine WL.next ?_
    refine CW.condT rfl ?_
    refine CW.rseq ?_
    refine WL.op (by decide) (R.assign rfl) ?_
    refine WL.next ?_
    refine CW.ret ?_
    refine EW.thenRet ?_
    exact EW.ret1 (.inl rfl) rfl rfl ⟨rfl, hC⟩
  · skip
    refine WL.next ?_
    refine CW.condF rfl ?_
    refine CW.skip ?_
    refine EW.next ?_
    refine CW.rseq ?_
    refine WL.op (by decide) (R.move rfl) ?_
    refine WL.eff rfl (OP.call (by decide) Tryd.func27 (by kernel_rfl) (by kernel_rfl) rfl (decode_any _ _ _ _ _ (hS.keep0 hC) (fun g o h => by have := hgl g o h; omega) (by omega) (hG.keep0 hC)) ?_)
    rintro ed w2 ⟨hc_w2, hres⟩
    have hC := hC.trans hc_w2
    have hz_w2 := hc_w2.size
    rcases dec_two hres with ⟨hdM, rfl⟩ | ⟨MM, hdM, vaM, vbM, rfl, hvaM, hvbM, hoaM, hobM⟩
    · skip
      refine ⟨_, rfl, ?_⟩
      refine WL.op (by decide) (R.move rfl) ?_
      refine WL.op (by decide) (R.extract rfl rfl) ?_
      refine WL.op (by decide) (R.extract rfl rfl) ?_
      refine WL.eff rfl (OP.allocM (by decide) ?_)
      intro w3 hc_w3 hs_w3 hB3
      obtain ⟨b3, he_b3⟩ : ∃ b, b = w2.heap.size := ⟨_, rfl⟩
      rw [← he_b3] at hB3 ⊢
      have hC := hC.trans hc_w3
      have hz_w3 := hc_w3.size
      refine WL.eff rfl (OP.storeM rfl rfl hB3 ?_)
      intro w4 hc_w4 hs_w4 hB3
      have hC := hC.thenB hc_w4 (by omega)
      refine WL.op (by decide) (R.assign rfl) ?_
      refine WL.next ?_
      refine CW.rseq ?_
      refine WL.eff rfl (OP.buildSlice (parts := [(0, _), (1, _), (2, _), (3, _), (4, _), (5, _), (6, _), (7, _), (8, _), (9, _), (10, _), (11, _)]) (vals := [(0, _), (1, _), (2, _), (3, _), (4, _), (5, _), (6, _), (7, _), (8, _), (9, _), (10, _), (11, _)]) (cells := (([0, 1, 129, 128, 0, 1, 0, 1, 0, 0, 0, 0] : List UInt8).map u8v).toArray) (ty := 5) (by decide) rfl slice_lit ?_)
      intro w5 hc_w5 hs_w5 hN
      obtain ⟨gE, he_gE⟩ : ∃ b, b = w4.heap.size := ⟨_, rfl⟩
      rw [← he_gE] at hN ⊢
      have hB3 := hc_w5.at hB3 (fun e => e)
      have hC := hC.trans hc_w5
      have hz_w5 := hc_w5.size
      have hBufE := Buf.lit (base := gE) hN (by decide) (Nat.le_refl _)
      have hglE : gE < w5.heap.size := by omega
      have hK5 : Chg (fun _ => False) w5 w5 := Chg.refl _ _
      refine WL.op (by decide) (R.move rfl) ?_
      refine WL.eff rfl (OP.appendSrc (by decide) rfl rfl (hBufE.keep0 hK5) (hS.keep0 hC) hA0 (by simp; omega) (by omega) ?_)
      intro v2 w6 hB2 hMv
      obtain ⟨g2, ce2, rfl, hSrc2, hc_w6, hgl2⟩ := appended (by simp) hB2 hMv (by omega)
      have hl2 : ([0, 1, 129, 128, 0, 1, 0, 1, 0, 0, 0, 0] ++ bs : List UInt8).length = 12 + bs.length := by simp; omega
      have hz_w6 := hc_w6.size
      have hB3 := hc_w6.at hB3 (fun e => by omega)
      have hC := hC.thenB hc_w6 (by omega)
      have hK6 : Chg (fun _ => False) w6 w6 := Chg.refl _ _
      refine WL.op (by decide) (R.assign rfl) ?_
      refine WL.next ?_
      refine CW.rseq ?_
      refine WL.op (by decide) (R.move rfl) ?_
      refine WL.eff rfl (OP.call (by decide) Tryd.func27 (by kernel_rfl) (by kernel_rfl) rfl (decode_any _ _ _ _ _ (hSrc2.keep0 hK6) (by rintro _ _ ⟨⟩; omega) (by omega) (hG.keep0 hC)) ?_)
      rintro ed w7 ⟨hc_w7, hres⟩
      have hB3 := hc_w7.at hB3 (fun e => e)
      have hC := hC.trans hc_w7
      have hK6 := hK6.trans hc_w7
      have hz_w7 := hc_w7.size
      rcases dec_two hres with ⟨hdN, rfl⟩ | ⟨MN, hdN, vaN, vbN, rfl, hvaN, hvbN, hoaN, hobN⟩
      · skip
        refine ⟨_, rfl, ?_⟩
        refine WL.op (by decide) (R.move rfl) ?_
        refine WL.op (by decide) (R.extract rfl rfl) ?_
        refine WL.op (by decide) (R.extract rfl rfl) ?_
        refine WL.eff rfl (OP.allocM (by decide) ?_)
        intro w8 hc_w8 hs_w8 hB6
        obtain ⟨b6, he_b6⟩ : ∃ b, b = w7.heap.size := ⟨_, rfl⟩
        rw [← he_b6] at hB6 ⊢
        have hB3 := hc_w8.at hB3 (fun e => e)
        have hC := hC.trans hc_w8
        have hK6 := hK6.trans hc_w8
        have hz_w8 := hc_w8.size
        refine WL.eff rfl (OP.storeM rfl rfl hB6 ?_)
        intro w9 hc_w9 hs_w9 hB6
        have hB3 := hc_w9.at hB3 (fun e => by omega)
        have hC := hC.thenB hc_w9 (by omega)
        have hK6 := hK6.thenB hc_w9 (by omega)
        refine WL.op (by decide) (R.assign rfl) ?_
        refine WL.next ?_
        refine CW.rseq ?_
        refine WL.op (by decide) (R.move rfl) ?_
        refine WL.op (by decide) (R.eql rfl rfl (decide_eq_false (by decide))) ?_
        refine WL.op (by decide) (R.move rfl) ?_
        refine WL.pass (by decide) rfl rfl rfl ?_
        refine WL.pass (by decide) rfl rfl rfl ?_
        refine WL.op (by decide) (R.pickF rfl rfl) ?_
        refine WL.op (by decide) (R.move rfl) ?_
        refine WL.gop (by decide) rfl rfl rfl (R.move rfl) ?_
        refine WL.gop (by decide) rfl rfl rfl (R.eql rfl rfl (decide_eq_true (rfl))) ?_
        refine WL.gop (by decide) rfl rfl rfl (R.move rfl) ?_
        refine WL.gop (by decide) rfl rfl rfl (R.loadM rfl hB3) ?_
        refine WL.gop (by decide) rfl rfl rfl (R.build (parts := []) (vals := []) rfl build33_nil) ?_
        refine WL.geff rfl rfl rfl (OP.call (by decide) Tryd.func25 (by kernel_rfl) (by kernel_rfl) rfl (same_any _ _ _ _ _ ⟨_, _, rfl, (RSl.nil _), (RSl.nil _)⟩ ⟨_, _, rfl, (RSl.nil _), (RSl.nil _)⟩ (by decide) (by decide)) ?_)
        rintro ed w10 ⟨rfl, hc_w10⟩
        rw [sameM_self]
        refine ⟨_, rfl, ?_⟩
        have hB3 := hc_w10.at hB3 (fun e => e)
        have hB6 := hc_w10.at hB6 (fun e => e)
        have hC := hC.trans hc_w10
        have hK6 := hK6.trans hc_w10
        have hz_w10 := hc_w10.size
        refine WL.gop (by decide) rfl rfl rfl (R.pickT rfl rfl) ?_
        refine WL.op (by decide) (R.pickF rfl rfl) ?_
        refine WL.op (by decide) (R.move rfl) ?_
        refine WL.gop (by decide) rfl rfl rfl (R.move rfl) ?_
        refine WL.gop (by decide) rfl rfl rfl (R.eql rfl rfl (decide_eq_false (by decide))) ?_
        refine WL.gop (by decide) rfl rfl rfl (R.move rfl) ?_
        refine WL.pass (by decide) rfl rfl rfl ?_
        refine WL.pass (by decide) rfl rfl rfl ?_
        refine WL.gop (by decide) rfl rfl rfl (R.pickF rfl rfl) ?_
        refine WL.gop (by decide) rfl rfl rfl (R.move rfl) ?_
        refine WL.pass (by decide) rfl rfl rfl ?_
        refine WL.pass (by decide) rfl rfl rfl ?_
        refine WL.pass (by decide) rfl rfl rfl ?_
        refine WL.pass (by decide) rfl rfl rfl ?_
        refine WL.gop (by decide) rfl rfl rfl (R.pickF rfl rfl) ?_
        refine WL.gop (by decide) rfl rfl rfl (R.move rfl) ?_
        refine WL.pass (by decide) rfl rfl rfl ?_
        refine WL.pass (by decide) rfl rfl rfl ?_
        refine WL.pass (by decide) rfl rfl rfl ?_
        refine WL.gop (by decide) rfl rfl rfl (R.pickF rfl rfl) ?_
        refine WL.gop (by decide) rfl rfl rfl (R.move rfl) ?_
        refine WL.gop (by decide) rfl rfl rfl (R.move rfl) ?_
        refine WL.gop (by decide) rfl rfl rfl (R.eql rfl rfl (decide_eq_true (rfl))) ?_
        refine WL.gop (by decide) rfl rfl rfl (R.pickF rfl rfl) ?_
        refine WL.op (by decide) (R.pickT rfl rfl) ?_
        refine WL.op (by decide) (R.assign rfl) ?_
        refine WL.next ?_
        refine CW.ret ?_
        exact EW.ret1 (.inl rfl) rfl rfl ⟨rfl, hC⟩
      · skip
        obtain ⟨AaN, caN, rfl, _⟩ := hvaN.form
        obtain ⟨AbN, cbN, rfl, _⟩ := hvbN.form
        have hlenN := len_dec hdN
        have halN := decode_all hdN
        have hK10 : Chg (fun _ => False) w7 w7 := Chg.refl _ _
        refine ⟨_, rfl, ?_⟩
        refine WL.op (by decide) (R.move rfl) ?_
        refine WL.op (by decide) (R.extract rfl rfl) ?_
        refine WL.op (by decide) (R.extract rfl rfl) ?_
        refine WL.eff rfl (OP.allocM (by decide) ?_)
        intro w11 hc_w11 hs_w11 hB6
        obtain ⟨b6, he_b6⟩ : ∃ b, b = w7.heap.size := ⟨_, rfl⟩
        rw [← he_b6] at hB6 ⊢
        have hB3 := hc_w11.at hB3 (fun e => e)
        have hC := hC.trans hc_w11
        have hK6 := hK6.trans hc_w11
        have hK10 := hK10.trans hc_w11
        have hz_w11 := hc_w11.size
        refine WL.eff rfl (OP.storeM rfl rfl hB6 ?_)
        intro w12 hc_w12 hs_w12 hB6
        have hB3 := hc_w12.at hB3 (fun e => by omega)
        have hC := hC.thenB hc_w12 (by omega)
        have hK6 := hK6.thenB hc_w12 (by omega)
        have hK10 := hK10.thenB hc_w12 (by omega)
        refine WL.op (by decide) (R.assign rfl) ?_
        refine WL.next ?_
        refine CW.rseq ?_
        refine WL.op (by decide) (R.move rfl) ?_
        refine WL.op (by decide) (R.eql rfl rfl (decide_eq_false (by decide))) ?_
        refine WL.op (by decide) (R.move rfl) ?_
        refine WL.pass (by decide) rfl rfl rfl ?_
        refine WL.pass (by decide) rfl rfl rfl ?_
        refine WL.op (by decide) (R.pickF rfl rfl) ?_
        refine WL.op (by decide) (R.move rfl) ?_
        refine WL.gop (by decide) rfl rfl rfl (R.move rfl) ?_
        refine WL.gop (by decide) rfl rfl rfl (R.eql rfl rfl (decide_eq_true (rfl))) ?_
        refine WL.gop (by decide) rfl rfl rfl (R.move rfl) ?_
        refine WL.gop (by decide) rfl rfl rfl (R.loadM rfl hB3) ?_
        refine WL.gop (by decide) rfl rfl rfl (R.build (parts := []) (vals := []) rfl build33_nil) ?_
        refine WL.geff rfl rfl rfl (OP.call (by decide) Tryd.func25 (by kernel_rfl) (by kernel_rfl) rfl (same_any _ _ _ _ _ ⟨_, _, rfl, (RSl.nil _), (RSl.nil _)⟩ ⟨_, _, rfl, (RSl.nil _), (RSl.nil _)⟩ (by decide) (by decide)) ?_)
        rintro ed w13 ⟨rfl, hc_w13⟩
        rw [sameM_self]
        refine ⟨_, rfl, ?_⟩
        have hB3 := hc_w13.at hB3 (fun e => e)
        have hB6 := hc_w13.at hB6 (fun e => e)
        have hC := hC.trans hc_w13
        have hK6 := hK6.trans hc_w13
        have hK10 := hK10.trans hc_w13
        have hz_w13 := hc_w13.size
        refine WL.gop (by decide) rfl rfl rfl (R.pickT rfl rfl) ?_
        refine WL.op (by decide) (R.pickF rfl rfl) ?_
        refine WL.op (by decide) (R.move rfl) ?_
        refine WL.gop (by decide) rfl rfl rfl (R.move rfl) ?_
        refine WL.gop (by decide) rfl rfl rfl (R.eql rfl rfl (decide_eq_true (rfl))) ?_
        refine WL.gop (by decide) rfl rfl rfl (R.move rfl) ?_
        refine WL.gop (by decide) rfl rfl rfl (R.loadM rfl hB6) ?_
        refine WL.geff rfl rfl rfl (OP.call (by decide) Tryd.func30 (by kernel_rfl) (by kernel_rfl) rfl (all_any _ _ _ ⟨_, _, rfl, (hvaN.keep0 hK10), (hvbN.keep0 hK10)⟩ (hG.keep0 hC) ((small_all halN))) ?_)
        rintro ed w14 ⟨rfl, hc_w14⟩
        rw [halN]
        refine ⟨_, rfl, ?_⟩
        have hB3 := hc_w14.at hB3 (fun e => e)
        have hB6 := hc_w14.at hB6 (fun e => e)
        have hC := hC.trans hc_w14
        have hK6 := hK6.trans hc_w14
        have hK10 := hK10.trans hc_w14
        have hz_w14 := hc_w14.size
        refine WL.gop (by decide) rfl rfl rfl (R.pickT rfl rfl) ?_
        refine WL.gop (by decide) rfl rfl rfl (R.move rfl) ?_
        refine WL.gop (by decide) rfl rfl rfl (FA33_6 rfl) ?_
        refine WL.gop (by decide) rfl rfl rfl (R.load Tryd.underlying31 rfl rfl (cell_at hB6 rfl)) ?_
        refine WL.gop (by decide) rfl rfl rfl (R.lenSlice rfl Tryd.underlying31 rfl) ?_
        refine WL.gop (by decide) rfl rfl rfl (R.eql rfl rfl (decide_eq_true (by rw [(junk_dec hdN).1]; rfl))) ?_
        refine WL.gop (by decide) rfl rfl rfl (R.pickT rfl rfl) ?_
        refine WL.gop (by decide) rfl rfl rfl (R.move rfl) ?_
        refine WL.gop (by decide) rfl rfl rfl (FA33_0 rfl) ?_
        refine WL.gop (by decide) rfl rfl rfl (R.load Tryd.underlying3 rfl rfl (cell_at hB6 rfl)) ?_
        refine WL.gop (by decide) rfl rfl rfl (R.eql rfl rfl (decide_eq_true ((junk_dec hdN).2))) ?_
        refine WL.gop (by decide) rfl rfl rfl (R.pickT rfl rfl) ?_
        refine WL.gop (by decide) rfl rfl rfl (R.move rfl) ?_
        refine WL.pass (by decide) rfl rfl rfl ?_
        refine WL.pass (by decide) rfl rfl rfl ?_
        refine WL.gop (by decide) rfl rfl rfl (R.pickT rfl rfl) ?_
        refine WL.op (by decide) (R.pickT rfl rfl) ?_
        refine WL.op (by decide) (R.assign rfl) ?_
        refine WL.next ?_
        refine CW.ret ?_
        exact EW.ret1 (.inl rfl) rfl rfl ⟨rfl, hC⟩
    · skip
      obtain ⟨AaM, caM, rfl, _⟩ := hvaM.form
      obtain ⟨AbM, cbM, rfl, _⟩ := hvbM.form
      have hlenM := len_dec hdM
      have halM := decode_all hdM
      have hK14 : Chg (fun _ => False) w2 w2 := Chg.refl _ _
      refine ⟨_, rfl, ?_⟩
      refine WL.op (by decide) (R.move rfl) ?_
      refine WL.op (by decide) (R.extract rfl rfl) ?_
      refine WL.op (by decide) (R.extract rfl rfl) ?_
      refine WL.eff rfl (OP.allocM (by decide) ?_)
      intro w15 hc_w15 hs_w15 hB3
      obtain ⟨b3, he_b3⟩ : ∃ b, b = w2.heap.size := ⟨_, rfl⟩
      rw [← he_b3] at hB3 ⊢
      have hC := hC.trans hc_w15
      have hK14 := hK14.trans hc_w15
      have hz_w15 := hc_w15.size
      refine WL.eff rfl (OP.storeM rfl rfl hB3 ?_)
      intro w16 hc_w16 hs_w16 hB3
      have hC := hC.thenB hc_w16 (by omega)
      have hK14 := hK14.thenB hc_w16 (by omega)
      refine WL.op (by decide) (R.assign rfl) ?_
      refine WL.next ?_
      refine CW.rseq ?_
      refine WL.eff rfl (OP.buildSlice (parts := [(0, _), (1, _), (2, _), (3, _), (4, _), (5, _), (6, _), (7, _), (8, _), (9, _), (10, _), (11, _)]) (vals := [(0, _), (1, _), (2, _), (3, _), (4, _), (5, _), (6, _), (7, _), (8, _), (9, _), (10, _), (11, _)]) (cells := (([0, 1, 129, 128, 0, 1, 0, 1, 0, 0, 0, 0] : List UInt8).map u8v).toArray) (ty := 5) (by decide) rfl slice_lit ?_)
      intro w17 hc_w17 hs_w17 hN
      obtain ⟨gE, he_gE⟩ : ∃ b, b = w16.heap.size := ⟨_, rfl⟩
      rw [← he_gE] at hN ⊢
      have hB3 := hc_w17.at hB3 (fun e => e)
      have hC := hC.trans hc_w17
      have hK14 := hK14.trans hc_w17
      have hz_w17 := hc_w17.size
      have hBufE := Buf.lit (base := gE) hN (by decide) (Nat.le_refl _)
      have hglE : gE < w17.heap.size := by omega
      have hK17 : Chg (fun _ => False) w17 w17 := Chg.refl _ _
      refine WL.op (by decide) (R.move rfl) ?_
      refine WL.eff rfl (OP.appendSrc (by decide) rfl rfl (hBufE.keep0 hK17) (hS.keep0 hC) hA0 (by simp; omega) (by omega) ?_)
      intro v2 w18 hB2 hMv
      obtain ⟨g2, ce2, rfl, hSrc2, hc_w18, hgl2⟩ := appended (by simp) hB2 hMv (by omega)
      have hl2 : ([0, 1, 129, 128, 0, 1, 0, 1, 0, 0, 0, 0] ++ bs : List UInt8).length = 12 + bs.length := by simp; omega
      have hz_w18 := hc_w18.size
      have hB3 := hc_w18.at hB3 (fun e => by omega)
      have hC := hC.thenB hc_w18 (by omega)
      have hK14 := hK14.thenB hc_w18 (by omega)
      have hK18 : Chg (fun _ => False) w18 w18 := Chg.refl _ _
      refine WL.op (by decide) (R.assign rfl) ?_
      refine WL.next ?_
      refine CW.rseq ?_
      refine WL.op (by decide) (R.move rfl) ?_
      refine WL.eff rfl (OP.call (by decide) Tryd.func27 (by kernel_rfl) (by kernel_rfl) rfl (decode_any _ _ _ _ _ (hSrc2.keep0 hK18) (by rintro _ _ ⟨⟩; omega) (by omega) (hG.keep0 hC)) ?_)
      rintro ed w19 ⟨hc_w19, hres⟩
      have hB3 := hc_w19.at hB3 (fun e => e)
      have hC := hC.trans hc_w19
      have hK14 := hK14.trans hc_w19
      have hK18 := hK18.trans hc_w19
      have hz_w19 := hc_w19.size
      rcases dec_two hres with ⟨hdN, rfl⟩ | ⟨MN, hdN, vaN, vbN, rfl, hvaN, hvbN, hoaN, hobN⟩
      · skip
        refine ⟨_, rfl, ?_⟩
        refine WL.op (by decide) (R.move rfl) ?_
        refine WL.op (by decide) (R.extract rfl rfl) ?_
        refine WL.op (by decide) (R.extract rfl rfl) ?_
        refine WL.eff rfl (OP.allocM (by decide) ?_)
        intro w20 hc_w20 hs_w20 hB6
        obtain ⟨b6, he_b6⟩ : ∃ b, b = w19.heap.size := ⟨_, rfl⟩
        rw [← he_b6] at hB6 ⊢
        have hB3 := hc_w20.at hB3 (fun e => e)
        have hC := hC.trans hc_w20
        have hK14 := hK14.trans hc_w20
        have hK18 := hK18.trans hc_w20
        have hz_w20 := hc_w20.size
        refine WL.eff rfl (OP.storeM rfl rfl hB6 ?_)
        intro w21 hc_w21 hs_w21 hB6
        have hB3 := hc_w21.at hB3 (fun e => by omega)
        have hC := hC.thenB hc_w21 (by omega)
        have hK14 := hK14.thenB hc_w21 (by omega)
        have hK18 := hK18.thenB hc_w21 (by omega)
        refine WL.op (by decide) (R.assign rfl) ?_
        refine WL.next ?_
        refine CW.rseq ?_
        refine WL.op (by decide) (R.move rfl) ?_
        refine WL.op (by decide) (R.eql rfl rfl (decide_eq_true (rfl))) ?_
        refine WL.op (by decide) (R.move rfl) ?_
        refine WL.gop (by decide) rfl rfl rfl (R.loadM rfl hB3) ?_
        refine WL.geff rfl rfl rfl (OP.call (by decide) Tryd.func30 (by kernel_rfl) (by kernel_rfl) rfl (all_any _ _ _ ⟨_, _, rfl, (hvaM.keep0 hK14), (hvbM.keep0 hK14)⟩ (hG.keep0 hC) ((small_all halM))) ?_)
        rintro ed w22 ⟨rfl, hc_w22⟩
        rw [halM]
        refine ⟨_, rfl, ?_⟩
        have hB3 := hc_w22.at hB3 (fun e => e)
        have hB6 := hc_w22.at hB6 (fun e => e)
        have hC := hC.trans hc_w22
        have hK14 := hK14.trans hc_w22
        have hK18 := hK18.trans hc_w22
        have hz_w22 := hc_w22.size
        refine WL.op (by decide) (R.pickT rfl rfl) ?_
        refine WL.op (by decide) (R.move rfl) ?_
        refine WL.pass (by decide) rfl rfl rfl ?_
        refine WL.pass (by decide) rfl rfl rfl ?_
        refine WL.pass (by decide) rfl rfl rfl ?_
        refine WL.passU (by decide) rfl rfl ?_
        refine WL.passU (by decide) rfl rfl ?_
        refine WL.passU (by decide) rfl rfl ?_
        refine WL.pass (by decide) rfl rfl rfl ?_
        refine WL.op (by decide) (R.pickT rfl rfl) ?_
        refine WL.op (by decide) (R.move rfl) ?_
        refine WL.gop (by decide) rfl rfl rfl (R.move rfl) ?_
        refine WL.gop (by decide) rfl rfl rfl (R.eql rfl rfl (decide_eq_false (by decide))) ?_
        refine WL.gop (by decide) rfl rfl rfl (R.move rfl) ?_
        refine WL.pass (by decide) rfl rfl rfl ?_
        refine WL.pass (by decide) rfl rfl rfl ?_
        refine WL.gop (by decide) rfl rfl rfl (R.pickF rfl rfl) ?_
        refine WL.gop (by decide) rfl rfl rfl (R.move rfl) ?_
        refine WL.pass (by decide) rfl rfl rfl ?_
        refine WL.pass (by decide) rfl rfl rfl ?_
        refine WL.pass (by decide) rfl rfl rfl ?_
        refine WL.pass (by decide) rfl rfl rfl ?_
        refine WL.gop (by decide) rfl rfl rfl (R.pickF rfl rfl) ?_
        refine WL.gop (by decide) rfl rfl rfl (R.move rfl) ?_
        refine WL.pass (by decide) rfl rfl rfl ?_
        refine WL.pass (by decide) rfl rfl rfl ?_
        refine WL.pass (by decide) rfl rfl rfl ?_
        refine WL.gop (by decide) rfl rfl rfl (R.pickF rfl rfl) ?_
        refine WL.gop (by decide) rfl rfl rfl (R.move rfl) ?_
        refine WL.gop (by decide) rfl rfl rfl (R.move rfl) ?_
        refine WL.gop (by decide) rfl rfl rfl (R.eql rfl rfl (decide_eq_true (rfl))) ?_
        refine WL.gop (by decide) rfl rfl rfl (R.pickF rfl rfl) ?_
        refine WL.op (by decide) (R.pickT rfl rfl) ?_
        refine WL.op (by decide) (R.assign rfl) ?_
        refine WL.next ?_
        refine CW.ret ?_
        exact EW.ret1 (.inl rfl) rfl rfl ⟨rfl, hC⟩
      · skip
        obtain ⟨AaN, caN, rfl, _⟩ := hvaN.form
        obtain ⟨AbN, cbN, rfl, _⟩ := hvbN.form
        have hlenN := len_dec hdN
        have halN := decode_all hdN
        have hK22 : Chg (fun _ => False) w19 w19 := Chg.refl _ _
        refine ⟨_, rfl, ?_⟩
        refine WL.op (by decide) (R.move rfl) ?_
        refine WL.op (by decide) (R.extract rfl rfl) ?_
        refine WL.op (by decide) (R.extract rfl rfl) ?_
        refine WL.eff rfl (OP.allocM (by decide) ?_)
        intro w23 hc_w23 hs_w23 hB6
        obtain ⟨b6, he_b6⟩ : ∃ b, b = w19.heap.size := ⟨_, rfl⟩
        rw [← he_b6] at hB6 ⊢
        have hB3 := hc_w23.at hB3 (fun e => e)
        have hC := hC.trans hc_w23
        have hK14 := hK14.trans hc_w23
        have hK18 := hK18.trans hc_w23
        have hK22 := hK22.trans hc_w23
        have hz_w23 := hc_w23.size
        refine WL.eff rfl (OP.storeM rfl rfl hB6 ?_)
        intro w24 hc_w24 hs_w24 hB6
        have hB3 := hc_w24.at hB3 (fun e => by omega)
        have hC := hC.thenB hc_w24 (by omega)
        have hK14 := hK14.thenB hc_w24 (by omega)
        have hK18 := hK18.thenB hc_w24 (by omega)
        have hK22 := hK22.thenB hc_w24 (by omega)
        refine WL.op (by decide) (R.assign rfl) ?_
        refine WL.next ?_
        refine CW.rseq ?_
        refine WL.op (by decide) (R.move rfl) ?_
        refine WL.op (by decide) (R.eql rfl rfl (decide_eq_true (rfl))) ?_
        refine WL.op (by decide) (R.move rfl) ?_
        refine WL.gop (by decide) rfl rfl rfl (R.loadM rfl hB3) ?_
        refine WL.geff rfl rfl rfl (OP.call (by decide) Tryd.func30 (by kernel_rfl) (by kernel_rfl) rfl (all_any _ _ _ ⟨_, _, rfl, (hvaM.keep0 hK14), (hvbM.keep0 hK14)⟩ (hG.keep0 hC) ((small_all halM))) ?_)
        rintro ed w25 ⟨rfl, hc_w25⟩
        rw [halM]
        refine ⟨_, rfl, ?_⟩
        have hB3 := hc_w25.at hB3 (fun e => e)
        have hB6 := hc_w25.at hB6 (fun e => e)
        have hC := hC.trans hc_w25
        have hK14 := hK14.trans hc_w25
        have hK18 := hK18.trans hc_w25
        have hK22 := hK22.trans hc_w25
        have hz_w25 := hc_w25.size
        refine WL.op (by decide) (R.pickT rfl rfl) ?_
        refine WL.op (by decide) (R.move rfl) ?_
        refine WL.pass (by decide) rfl rfl rfl ?_
        refine WL.pass (by decide) rfl rfl rfl ?_
        refine WL.pass (by decide) rfl rfl rfl ?_
        refine WL.passU (by decide) rfl rfl ?_
        refine WL.passU (by decide) rfl rfl ?_
        refine WL.passU (by decide) rfl rfl ?_
        refine WL.pass (by decide) rfl rfl rfl ?_
        refine WL.op (by decide) (R.pickT rfl rfl) ?_
        refine WL.op (by decide) (R.move rfl) ?_
        refine WL.gop (by decide) rfl rfl rfl (R.move rfl) ?_
        refine WL.gop (by decide) rfl rfl rfl (R.eql rfl rfl (decide_eq_true (rfl))) ?_
        refine WL.gop (by decide) rfl rfl rfl (R.move rfl) ?_
        refine WL.gop (by decide) rfl rfl rfl (R.loadM rfl hB6) ?_
        refine WL.geff rfl rfl rfl (OP.call (by decide) Tryd.func30 (by kernel_rfl) (by kernel_rfl) rfl (all_any _ _ _ ⟨_, _, rfl, (hvaN.keep0 hK22), (hvbN.keep0 hK22)⟩ (hG.keep0 hC) ((small_all halN))) ?_)
        rintro ed w26 ⟨rfl, hc_w26⟩
        rw [halN]
        refine ⟨_, rfl, ?_⟩
        have hB3 := hc_w26.at hB3 (fun e => e)
        have hB6 := hc_w26.at hB6 (fun e => e)
        have hC := hC.trans hc_w26
        have hK14 := hK14.trans hc_w26
        have hK18 := hK18.trans hc_w26
        have hK22 := hK22.trans hc_w26
        have hz_w26 := hc_w26.size
        refine WL.gop (by decide) rfl rfl rfl (R.pickT rfl rfl) ?_
        refine WL.gop (by decide) rfl rfl rfl (R.move rfl) ?_
        refine WL.gop (by decide) rfl rfl rfl (FA33_6 rfl) ?_
        refine WL.gop (by decide) rfl rfl rfl (R.load Tryd.underlying31 rfl rfl (cell_at hB6 rfl)) ?_
        refine WL.gop (by decide) rfl rfl rfl (R.lenSlice rfl Tryd.underlying31 rfl) ?_
        refine WL.gop (by decide) rfl rfl rfl (R.eql rfl rfl (decide_eq_true (by rw [(junk_dec hdN).1]; rfl))) ?_
        refine WL.gop (by decide) rfl rfl rfl (R.pickT rfl rfl) ?_
        refine WL.gop (by decide) rfl rfl rfl (R.move rfl) ?_
        refine WL.gop (by decide) rfl rfl rfl (FA33_0 rfl) ?_
        refine WL.gop (by decide) rfl rfl rfl (R.load Tryd.underlying3 rfl rfl (cell_at hB6 rfl)) ?_
        refine WL.gop (by decide) rfl rfl rfl (R.eql rfl rfl (decide_eq_true ((junk_dec hdN).2))) ?_
        refine WL.gop (by decide) rfl rfl rfl (R.pickT rfl rfl) ?_
        refine WL.gop (by decide) rfl rfl rfl (R.move rfl) ?_
        refine WL.pass (by decide) rfl rfl rfl ?_
        refine WL.pass (by decide) rfl rfl rfl ?_
        refine WL.gop (by decide) rfl rfl rfl (R.pickT rfl rfl) ?_
        refine WL.op (by decide) (R.pickT rfl rfl) ?_
        refine WL.op (by decide) (R.assign rfl) ?_
        refine WL.next ?_
        refine CW.ret ?_
        exact EW.ret1 (.inl rfl) rfl rfl ⟨rfl, hC⟩
end Go.Proofs.YthcpjcgjmdfpjaaDoor

namespace Go.Proofs.YthcpjcgjmdfpjaaDoor
open Go Go.ChangeShapes Go.WideShapes Go.ChangeAt Go.RowKit
set_option maxRecDepth 100000

theorem msgJunk_lifted (os : Os) (started : os.Started) (H : Type) (enc : TypeId × Value → H) :
    ReturnsInHanded {} Tryd.checked os 7 .any (fun w args => (Rows.msgJunkSpec.pre enc Tryd.prog Tryd.f7 [] false w args ∧ laidMetH Tryd.prog laidL w) ∧ sizedMet enc Tryd.prog Tryd.f7 (OpenSpec.ofChange Rows.msgJunkSpec) false w args)
      (Rows.msgJunkSpec.post enc Tryd.prog Tryd.f7 false true false false) := by
  refine law_lifted (s := Rows.msgJunkSpec) started Tryd.func7 (by kernel_rfl) rfl (by kernel_rfl) (by kernel_rfl) ?_ ?_
    (ChangeSpec.witness_shaped (enc := enc) (C := Tryd.checked) (os := os) (X := fun w _ => laidMetH Tryd.prog laidL w) false (World.laidAll Tryd.prog os laidL) #[.slice none 0 0] 8 (World.laidAll_os _ _ _)
      (World.shaped_of_ZipB (by kernel_rfl) (by kernel_rfl)) (by kernel_rfl) (by kernel_rfl) (by kernel_rfl)
      (by rw [MakeChecks.laidMetH_plain _ _ _ (by kernel_rfl)]; exact laidMet_laidAll _ (by kernel_rfl) (by kernel_rfl))) ?_
  · intro ds hl
    rw [show Tryd.f7.params.size = 1 by rw [Tryd.params7]; rfl] at hl
    obtain ⟨d0, rfl⟩ := list1 hl
    rfl
  · intro W vs ds ps h
    exact trodAll_len h
  intro W base args ds p hval hA hlt hw hG
  rw [Tryd.params7] at hA hval hw
  obtain ⟨v0, d0, rfl, rfl, h0⟩ := trodAll_one hA
  obtain ⟨A, m, c, bs, rfl, hS, hgl, hA0⟩ := open_bytesN (hval 0 36 v0 rfl rfl) h0
  exact msgJunk_any A m c bs W hS hgl hA0 hG

theorem msgJunk_joined : joinedFacts Tryd.prog 7 Tryd.f7 Rows.msgJunkSpec Rows.msgJunkRow = true :=
  joined_of seat_mayEnter seat_lifts seat_make rfl rfl rfl rfl (by kernel_rfl) (by kernel_rfl) (by kernel_rfl) (by kernel_rfl) (by kernel_rfl) (by kernel_rfl) (by kernel_rfl) (by kernel_rfl) (by kernel_rfl) (by kernel_rfl) (by kernel_rfl) (by kernel_rfl) (by kernel_rfl) (by kernel_rfl) (by kernel_rfl) (by kernel_rfl) (by kernel_rfl) (by kernel_rfl) (by kernel_rfl) (by kernel_rfl) (by kernel_rfl) (by kernel_rfl) (by kernel_rfl) (by kernel_rfl) (by kernel_rfl) (by kernel_rfl) (by kernel_rfl) (by kernel_rfl)
theorem msgJunk_holds : Rows.MsgJunkSaid :=
  OpenClaim.holds_of_wide 7 Tryd.f7 rfl rfl rfl rfl rfl rfl rfl ⟨rfl, rfl, rfl, rfl, rfl⟩ rfl rfl rfl rfl rfl (by kernel_rfl) Tryd.func7 msgJunk_joined
    (of_decide_eq_true (by kernel_rfl)) (by unfold Func.isWrapper; first | (rw [if_pos (by decide +kernel)]; kernel_rfl) | (rw [if_neg (by decide +kernel)]; exact ⟨rfl, rfl⟩))
    (fun os started H enc _ => msgJunk_lifted os started H enc)
theorem msgJunk_card : Rows.MsgJunkCardSaid :=
  Claim7.holds_tied_plain_at .later [] [.data] true (true, "6afa14409c1fcf784e159d3dd9af9e0af6fc07a3d3e06aa2c8b4c577951ca517") false msgJunk_holds (fun _ h => by cases h) (by kernel_rfl) (fun _ h => by cases h) msgJunk_row_tie rfl ⟨rfl, rfl⟩ seat_main rfl
    (fun f fn hf hfn => by
      obtain rfl : f = 7 := Option.some.inj ((show Tryd.prog.funcNamed "nomenclator/nomenclatorlaw04.MsgJunk" = some 7 by kernel_rfl).symm.trans hf) |>.symm
      obtain rfl : fn = Tryd.f7 := (Option.some.inj (Tryd.func7.symm.trans hfn)).symm
      exact ⟨by kernel_rfl, fun j t ht => by
        rw [Tryd.params7] at ht
        have hm : t ∈ [36] := by simpa using Array.mem_of_getElem? ht
        have hall : ([36].all fun u => !Tryd.prog.wantsStandIn u) = true := by kernel_rfl
        exact (show Tryd.prog.wantsStandIn t = false by simpa using List.all_eq_true.1 hall t hm)⟩)
    (by kernel_rfl)
end Go.Proofs.YthcpjcgjmdfpjaaDoor
