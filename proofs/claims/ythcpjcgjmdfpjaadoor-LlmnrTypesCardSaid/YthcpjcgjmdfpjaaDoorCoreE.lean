/- Words, contracts and walks that several statements share (CoreE): Match, Same, Reads, Back, Opens, Args, Fits, Ops7. -/
import Derived.Test.YthcpjcgjmdfpjaaDoorCoreD
import Derived.Test.YthcpjcgjmdfpjaaDoorCoreB
import Derived.Test.YthcpjcgjmdfpjaaDoorCoreA
import Derived.ChangeSlices
import Derived.Lib.Bytealg
import Derived.Laws.OwnMore
namespace Go.Proofs.YthcpjcgjmdfpjaaDoor
open Go Go.RowKit
set_option maxRecDepth 100000
set_option maxHeartbeats 4000000

/-- Does it come where it is waited for? -/
def passT (t : Tr) (link gen : Int) (frm : List UInt8) (port : Int) : Bool := decide (link = t.link) && decide (gen = t.gen) && decide (port = t.port) && (t.group || decide (frm = t.to))
/-- Does it answer? -/
def ansT (t : Tr) (m : Msg) : Bool := m.reply && decide (m.id = t.id) && decide (m.qname = t.qname) && decide (m.qtype = t.qtype)
def MatchRes (t : Tr) (link gen : Int) (frm : List UInt8) (port : Int) (base : Nat) (res : Option Msg) (e : Ending) (w : World) : Prop :=
  match res with
  | some m => if passT t link gen frm port = true then ∃ v, e = .returned (.tuple #[v, .bool (ansT t m)]) ∧ MVF base w v m else e = .returned (.tuple #[zeroMV, .bool false])
  | none => e = .returned (.tuple #[zeroMV, .bool false])
theorem ans4 {a : Bool} {p q : Prop} : a = false ∨ (a = true ∧ ¬ p) ∨ (a = true ∧ p ∧ ¬ q) ∨ (a = true ∧ p ∧ q) := by
  cases a <;> by_cases hp : p <;> by_cases hq : q <;> simp [hp, hq]
theorem match_any (t : Tr) (link gen : Int) (frm : List UInt8) (port : Int) (A : Option Addr) (m c : Nat) (bs : List UInt8) (w : World) (h16 : t.to.length = 16) (hf16 : frm.length = 16) (hS : Src w A m c bs) (hgl : ∀ g o, A = some ⟨g, o, none⟩ → g < w.heap.size) (hm : m ≤ 1099511627776) (hG : Glob w) :
    Calls Tryd.prog 23 #[t.val, .int .i64 link, .int .i64 gen, .agg (frm.map u8v).toArray, .int .i64 port, .slice A m c] w fun e w' => Chg (fun _ => False) w w' ∧ MatchRes t link gen frm port w.heap.size (decode bs) e w' := by
  refine calls_cw (args := [t.val, .int .i64 link, .int .i64 gen, .agg (frm.map u8v).toArray, .int .i64 port, .slice A m c]) Tryd.func23 rfl rfl ?_
  show CW _ _ _ 70 [(0, t.val), (1, .int .i64 link), (2, .int .i64 gen), (3, .agg (frm.map u8v).toArray), (4, .int .i64 port), (5, .slice A m c)] w
  refine CW.rseq ?_
  refine WL.eff rfl (OP.box (by decide) rfl ?_)
  intro w1 hc1 hs1 hT0
  obtain ⟨bt, he_bt⟩ : ∃ b, b = w.heap.size := ⟨_, rfl⟩
  have hT : w1.heap[bt]? = some (.cells t.cells.toArray 29 (0, 0)) := by rw [he_bt]; exact hT0
  rw [← he_bt]
  refine WL.eff rfl (OP.box (by decide) rfl ?_)
  intro w2 hc2 hs2 hF0
  obtain ⟨bf, he_bf⟩ : ∃ b, b = w1.heap.size := ⟨_, rfl⟩
  have hF : w2.heap[bf]? = some (.cells (frm.map u8v).toArray 27 (0, 0)) := by rw [he_bf]; exact hF0
  rw [← he_bf]
  have hT := hc2.at hT (fun e => e)
  refine WL.eff rfl (OP.alloc1 (.agg (Msg.cells ⟨0, false, false, false, 0, [], 0, [], []⟩ (.slice none 0 0) (.slice none 0 0)).toArray) (by decide) (by kernel_rfl) ?_)
  intro w3 hc3 hs3 hR0
  obtain ⟨br, he_br⟩ : ∃ b, b = w2.heap.size := ⟨_, rfl⟩
  have hR : w3.heap[br]? = some (.cells (Msg.cells ⟨0, false, false, false, 0, [], 0, [], []⟩ (.slice none 0 0) (.slice none 0 0)).toArray 33 (0, 0)) := by rw [he_br]; exact hR0
  rw [← he_br]
  have hT := hc3.at hT (fun e => e)
  have hF := hc3.at hF (fun e => e)
  have hc13 : Chg (fun _ => False) w w3 := (hc1.trans hc2).trans hc3
  refine WL.op (by decide) (R.assign rfl) ?_
  refine WL.next ?_
  refine CW.rseq ?_
  refine WL.op (by decide) (R.move rfl) ?_
  refine WL.eff rfl (OP.call (by decide) Tryd.func27 (by kernel_rfl) (by kernel_rfl) rfl (decode_any A m c bs w3 (hS.kept hc13 (fun _ _ _ e => e)) (fun g o h => by have := hgl g o h; omega) hm (hG.kept hc13 (fun e => e))) ?_)
  rintro ed w4 ⟨hc4, hres⟩
  have hz4 := hc4.size
  have hT := hc4.at hT (fun e => e)
  have hF := hc4.at hF (fun e => e)
  have hR := hc4.at hR (fun e => e)
  have hC := hc13.trans hc4
  cases hd : decode bs
  · skip
    rw [hd] at hres
    obtain rfl := hres
    refine ⟨_, rfl, ?_⟩
    refine WL.op (by decide) (R.move rfl) ?_
    refine WL.op (by decide) (R.extract rfl rfl) ?_
    refine WL.op (by decide) (R.extract rfl rfl) ?_
    refine WL.eff rfl (OP.alloc1 (.agg (Msg.cells ⟨0, false, false, false, 0, [], 0, [], []⟩ (.slice none 0 0) (.slice none 0 0)).toArray) (by decide) (by kernel_rfl) ?_)
    intro w5 hc5 hs5 hB0
    obtain ⟨bm, he_bm⟩ : ∃ b, b = w4.heap.size := ⟨_, rfl⟩
    have hBm : w5.heap[bm]? = some (.cells (Msg.cells ⟨0, false, false, false, 0, [], 0, [], []⟩ (.slice none 0 0) (.slice none 0 0)).toArray 33 (0, 0)) := by rw [he_bm]; exact hB0
    rw [← he_bm]
    have hT := hc5.at hT (fun e => e)
    have hF := hc5.at hF (fun e => e)
    have hR := hc5.at hR (fun e => e)
    have hC := hC.trans hc5
    refine WL.eff rfl (OP.storeAgg inf33.choose_spec.1 (by rw [inf33.choose_spec.2]; rfl) rfl rfl (m_all _ _ _ _ _ _ _) hBm rfl ?_)
    intro w6 hc6 hs6 hBm
    have hT := hc6.at hT (fun e => by omega)
    have hF := hc6.at hF (fun e => by omega)
    have hR := hc6.at hR (fun e => by omega)
    have hC := hC.then hc6 (fun k hk e => by omega)
    have hc46 : Chg (fun _ => False) w4 w6 := hc5.then hc6 (fun k hk e => by omega)
    refine WL.op (by decide) (R.assign rfl) ?_
    refine WL.next ?_
    refine CW.seq ?_
    refine CW.rseq ?_
    refine WL.op (by decide) (R.move rfl) ?_
    refine WL.op (by decide) (R.neq rfl rfl (c := true) (by decide)) ?_
    refine WL.op (by decide) (R.move rfl) ?_
    refine WL.pass (by decide) rfl rfl rfl ?_
    refine WL.pass (by decide) rfl rfl rfl ?_
    refine WL.pass (by decide) rfl rfl rfl ?_
    refine WL.pass (by decide) rfl rfl rfl ?_
    refine WL.op (by decide) (R.pickT rfl rfl) ?_
    refine WL.op (by decide) (R.move rfl) ?_
    refine WL.pass (by decide) rfl rfl rfl ?_
    refine WL.pass (by decide) rfl rfl rfl ?_
    refine WL.pass (by decide) rfl rfl rfl ?_
    refine WL.pass (by decide) rfl rfl rfl ?_
    refine WL.op (by decide) (R.pickT rfl rfl) ?_
    refine WL.op (by decide) (R.move rfl) ?_
    refine WL.pass (by decide) rfl rfl rfl ?_
    refine WL.pass (by decide) rfl rfl rfl ?_
    refine WL.pass (by decide) rfl rfl rfl ?_
    refine WL.pass (by decide) rfl rfl rfl ?_
    refine WL.op (by decide) (R.pickT rfl rfl) ?_
    refine WL.op (by decide) (R.move rfl) ?_
    refine WL.pass (by decide) rfl rfl rfl ?_
    refine WL.pass (by decide) rfl rfl rfl ?_
    refine WL.pass (by decide) rfl rfl rfl ?_
    refine WL.pass (by decide) rfl rfl rfl ?_
    refine WL.passU (by decide) rfl rfl ?_
    refine WL.passU (by decide) rfl rfl ?_
    refine WL.passU (by decide) rfl rfl ?_
    refine WL.passU (by decide) rfl rfl ?_
    refine WL.pass (by decide) rfl rfl rfl ?_
    refine WL.op (by decide) (R.pickT rfl rfl) ?_
    refine WL.next ?_
    refine CW.condT rfl ?_
    refine CW.rseq ?_
    refine WL.op (by decide) (R.build (parts := []) (vals := []) rfl (fun w => build33_0 w)) ?_
    refine WL.eff rfl (OP.storeAgg inf33.choose_spec.1 (by rw [inf33.choose_spec.2]; rfl) rfl rfl (m_all _ _ _ _ _ _ _) hR rfl ?_)
    intro w7 hc7 hs7 hR
    have hC := hC.then hc7 (fun k hk e => by omega)
    refine WL.op (by decide) (R.assign rfl) ?_
    refine WL.next ?_
    refine CW.ret ?_
    refine EW.thenRet ?_
    exact EW.retCT (.inl rfl) rfl rfl rfl (cs := Msg.cells ⟨0, false, false, false, 0, [], 0, [], []⟩ (.slice none 0 0) (.slice none 0 0)) Tryd.underlying33 rfl sz33 (fun j u hj => cell_at hR (by rw [List.getElem?_toArray]; exact hj)) ⟨hC, rfl⟩
  · skip
    rename_i M
    rw [hd] at hres
    obtain ⟨v, rfl, va, vb, rfl, hva, hvb, hfa, hfb⟩ := hres
    obtain ⟨Aa, ca, rfl, _⟩ := hva.form
    obtain ⟨Ab, cb, rfl, _⟩ := hvb.form
    refine ⟨_, rfl, ?_⟩
    refine WL.op (by decide) (R.move rfl) ?_
    refine WL.op (by decide) (R.extract rfl rfl) ?_
    refine WL.op (by decide) (R.extract rfl rfl) ?_
    refine WL.eff rfl (OP.alloc1 (.agg (Msg.cells ⟨0, false, false, false, 0, [], 0, [], []⟩ (.slice none 0 0) (.slice none 0 0)).toArray) (by decide) (by kernel_rfl) ?_)
    intro w5 hc5 hs5 hB0
    obtain ⟨bm, he_bm⟩ : ∃ b, b = w4.heap.size := ⟨_, rfl⟩
    have hBm : w5.heap[bm]? = some (.cells (Msg.cells ⟨0, false, false, false, 0, [], 0, [], []⟩ (.slice none 0 0) (.slice none 0 0)).toArray 33 (0, 0)) := by rw [he_bm]; exact hB0
    rw [← he_bm]
    have hT := hc5.at hT (fun e => e)
    have hF := hc5.at hF (fun e => e)
    have hR := hc5.at hR (fun e => e)
    have hC := hC.trans hc5
    refine WL.eff rfl (OP.storeAgg inf33.choose_spec.1 (by rw [inf33.choose_spec.2]; rfl) rfl rfl (m_all _ _ _ _ _ _ _) hBm rfl ?_)
    intro w6 hc6 hs6 hBm
    have hT := hc6.at hT (fun e => by omega)
    have hF := hc6.at hF (fun e => by omega)
    have hR := hc6.at hR (fun e => by omega)
    have hC := hC.then hc6 (fun k hk e => by omega)
    have hc46 : Chg (fun _ => False) w4 w6 := hc5.then hc6 (fun k hk e => by omega)
    refine WL.op (by decide) (R.assign rfl) ?_
    refine WL.next ?_
    refine CW.seq ?_
    refine CW.rseq ?_
    refine WL.op (by decide) (R.move rfl) ?_
    refine WL.op (by decide) (R.neq rfl rfl (c := false) (by decide)) ?_
    refine WL.op (by decide) (R.move rfl) ?_
    refine WL.gop (by decide) rfl rfl rfl (R.move rfl) ?_
    refine WL.gop (by decide) rfl rfl rfl (FA29_1 rfl) ?_
    refine WL.gop (by decide) rfl rfl rfl (R.load Tryd.underlying3 rfl rfl (cell_at hT rfl)) ?_
    refine WL.gsplit _ (by decide) rfl rfl rfl (R.neqD rfl rfl) (fun h1 => ?_) (fun h1 => ?_)
    · skip
      refine WL.op (by decide) (R.pickF rfl rfl) ?_
      refine WL.op (by decide) (R.move rfl) ?_
      refine WL.pass (by decide) rfl rfl rfl ?_
      refine WL.pass (by decide) rfl rfl rfl ?_
      refine WL.pass (by decide) rfl rfl rfl ?_
      refine WL.pass (by decide) rfl rfl rfl ?_
      refine WL.op (by decide) (R.pickT rfl rfl) ?_
      refine WL.op (by decide) (R.move rfl) ?_
      refine WL.pass (by decide) rfl rfl rfl ?_
      refine WL.pass (by decide) rfl rfl rfl ?_
      refine WL.pass (by decide) rfl rfl rfl ?_
      refine WL.pass (by decide) rfl rfl rfl ?_
      refine WL.op (by decide) (R.pickT rfl rfl) ?_
      refine WL.op (by decide) (R.move rfl) ?_
      refine WL.pass (by decide) rfl rfl rfl ?_
      refine WL.pass (by decide) rfl rfl rfl ?_
      refine WL.pass (by decide) rfl rfl rfl ?_
      refine WL.pass (by decide) rfl rfl rfl ?_
      refine WL.passU (by decide) rfl rfl ?_
      refine WL.passU (by decide) rfl rfl ?_
      refine WL.passU (by decide) rfl rfl ?_
      refine WL.passU (by decide) rfl rfl ?_
      refine WL.pass (by decide) rfl rfl rfl ?_
      refine WL.op (by decide) (R.pickT rfl rfl) ?_
      refine WL.next ?_
      refine CW.condT rfl ?_
      refine CW.rseq ?_
      refine WL.op (by decide) (R.build (parts := []) (vals := []) rfl (fun w => build33_0 w)) ?_
      refine WL.eff rfl (OP.storeAgg inf33.choose_spec.1 (by rw [inf33.choose_spec.2]; rfl) rfl rfl (m_all _ _ _ _ _ _ _) hR rfl ?_)
      intro w7 hc7 hs7 hR
      have hC := hC.then hc7 (fun k hk e => by omega)
      refine WL.op (by decide) (R.assign rfl) ?_
      refine WL.next ?_
      refine CW.ret ?_
      refine EW.thenRet ?_
      exact EW.retCT (.inl rfl) rfl rfl rfl (cs := Msg.cells ⟨0, false, false, false, 0, [], 0, [], []⟩ (.slice none 0 0) (.slice none 0 0)) Tryd.underlying33 rfl sz33 (fun j u hj => cell_at hR (by rw [List.getElem?_toArray]; exact hj)) ⟨hC, by show MatchRes _ _ _ _ _ _ (some M) _ _; unfold MatchRes; simp only; rw [if_neg (by unfold passT; simp [*])]; rfl⟩
    · skip
      refine WL.op (by decide) (R.pickF rfl rfl) ?_
      refine WL.op (by decide) (R.move rfl) ?_
      refine WL.gop (by decide) rfl rfl rfl (R.move rfl) ?_
      refine WL.gop (by decide) rfl rfl rfl (FA29_2 rfl) ?_
      refine WL.gop (by decide) rfl rfl rfl (R.load Tryd.underlying3 rfl rfl (cell_at hT rfl)) ?_
      refine WL.gsplit _ (by decide) rfl rfl rfl (R.neqD rfl rfl) (fun h2 => ?_) (fun h2 => ?_)
      · skip
        refine WL.op (by decide) (R.pickF rfl rfl) ?_
        refine WL.op (by decide) (R.move rfl) ?_
        refine WL.pass (by decide) rfl rfl rfl ?_
        refine WL.pass (by decide) rfl rfl rfl ?_
        refine WL.pass (by decide) rfl rfl rfl ?_
        refine WL.pass (by decide) rfl rfl rfl ?_
        refine WL.op (by decide) (R.pickT rfl rfl) ?_
        refine WL.op (by decide) (R.move rfl) ?_
        refine WL.pass (by decide) rfl rfl rfl ?_
        refine WL.pass (by decide) rfl rfl rfl ?_
        refine WL.pass (by decide) rfl rfl rfl ?_
        refine WL.pass (by decide) rfl rfl rfl ?_
        refine WL.passU (by decide) rfl rfl ?_
        refine WL.passU (by decide) rfl rfl ?_
        refine WL.passU (by decide) rfl rfl ?_
        refine WL.passU (by decide) rfl rfl ?_
        refine WL.pass (by decide) rfl rfl rfl ?_
        refine WL.op (by decide) (R.pickT rfl rfl) ?_
        refine WL.next ?_
        refine CW.condT rfl ?_
        refine CW.rseq ?_
        refine WL.op (by decide) (R.build (parts := []) (vals := []) rfl (fun w => build33_0 w)) ?_
        refine WL.eff rfl (OP.storeAgg inf33.choose_spec.1 (by rw [inf33.choose_spec.2]; rfl) rfl rfl (m_all _ _ _ _ _ _ _) hR rfl ?_)
        intro w7 hc7 hs7 hR
        have hC := hC.then hc7 (fun k hk e => by omega)
        refine WL.op (by decide) (R.assign rfl) ?_
        refine WL.next ?_
        refine CW.ret ?_
        refine EW.thenRet ?_
        exact EW.retCT (.inl rfl) rfl rfl rfl (cs := Msg.cells ⟨0, false, false, false, 0, [], 0, [], []⟩ (.slice none 0 0) (.slice none 0 0)) Tryd.underlying33 rfl sz33 (fun j u hj => cell_at hR (by rw [List.getElem?_toArray]; exact hj)) ⟨hC, by show MatchRes _ _ _ _ _ _ (some M) _ _; unfold MatchRes; simp only; rw [if_neg (by unfold passT; simp [*])]; rfl⟩
      · skip
        refine WL.op (by decide) (R.pickF rfl rfl) ?_
        refine WL.op (by decide) (R.move rfl) ?_
        refine WL.gop (by decide) rfl rfl rfl (R.move rfl) ?_
        refine WL.gop (by decide) rfl rfl rfl (FA29_5 rfl) ?_
        refine WL.gop (by decide) rfl rfl rfl (R.load Tryd.underlying3 rfl rfl (cell_at hT (Tr.at21 h16))) ?_
        refine WL.gsplit _ (by decide) rfl rfl rfl (R.neqD rfl rfl) (fun h3 => ?_) (fun h3 => ?_)
        · skip
          refine WL.op (by decide) (R.pickF rfl rfl) ?_
          refine WL.op (by decide) (R.move rfl) ?_
          refine WL.pass (by decide) rfl rfl rfl ?_
          refine WL.pass (by decide) rfl rfl rfl ?_
          refine WL.pass (by decide) rfl rfl rfl ?_
          refine WL.pass (by decide) rfl rfl rfl ?_
          refine WL.passU (by decide) rfl rfl ?_
          refine WL.passU (by decide) rfl rfl ?_
          refine WL.passU (by decide) rfl rfl ?_
          refine WL.passU (by decide) rfl rfl ?_
          refine WL.pass (by decide) rfl rfl rfl ?_
          refine WL.op (by decide) (R.pickT rfl rfl) ?_
          refine WL.next ?_
          refine CW.condT rfl ?_
          refine CW.rseq ?_
          refine WL.op (by decide) (R.build (parts := []) (vals := []) rfl (fun w => build33_0 w)) ?_
          refine WL.eff rfl (OP.storeAgg inf33.choose_spec.1 (by rw [inf33.choose_spec.2]; rfl) rfl rfl (m_all _ _ _ _ _ _ _) hR rfl ?_)
          intro w7 hc7 hs7 hR
          have hC := hC.then hc7 (fun k hk e => by omega)
          refine WL.op (by decide) (R.assign rfl) ?_
          refine WL.next ?_
          refine CW.ret ?_
          refine EW.thenRet ?_
          exact EW.retCT (.inl rfl) rfl rfl rfl (cs := Msg.cells ⟨0, false, false, false, 0, [], 0, [], []⟩ (.slice none 0 0) (.slice none 0 0)) Tryd.underlying33 rfl sz33 (fun j u hj => cell_at hR (by rw [List.getElem?_toArray]; exact hj)) ⟨hC, by show MatchRes _ _ _ _ _ _ (some M) _ _; unfold MatchRes; simp only; rw [if_neg (by unfold passT; simp [*])]; rfl⟩
        · skip
          refine WL.op (by decide) (R.pickF rfl rfl) ?_
          refine WL.op (by decide) (R.move rfl) ?_
          refine WL.gop (by decide) rfl rfl rfl (FA29_7 rfl) ?_
          cases hgr : t.group
          · skip
            refine WL.gop (by decide) rfl rfl rfl (R.load (v := .bool false) Tryd.underlying4 rfl rfl (cell_at hT ((Tr.at23 h16).trans (by rw [hgr])))) ?_
            refine WL.gop (by decide) rfl rfl rfl (R.not rfl) ?_
            refine WL.gop (by decide) rfl rfl rfl (R.move rfl) ?_
            refine WL.gop (by decide) rfl rfl rfl (R.loadAgg1 (cs := frm.map u8v) Tryd.underlying27 rfl (by rw [List.length_map, hf16]; exact sz27) rfl (fun j u hj => cell_at hF (by rw [Nat.zero_add, List.getElem?_toArray]; exact hj))) ?_
            refine WL.gop (by decide) rfl rfl rfl (FA29_3 rfl) ?_
            refine WL.gop (by decide) rfl rfl rfl (R.loadAgg1 (cs := t.to.map u8v) Tryd.underlying27 rfl (by rw [List.length_map, h16]; exact sz27) rfl (fun j u hj => cell_at hT (by rw [Nat.zero_add]; exact Tr.atTo hj))) ?_
            by_cases hto : frm = t.to
            · skip
              refine WL.gop (by decide) rfl rfl rfl (R.neq27 (c := false) (a := frm) (b := t.to) hf16 h16 rfl rfl (by simp [hto])) ?_
              refine WL.gop (by decide) rfl rfl rfl (R.pickT rfl rfl) ?_
              refine WL.op (by decide) (R.pickF rfl rfl) ?_
              refine WL.next ?_
              refine CW.condF rfl ?_
              refine CW.skip ?_
              refine EW.next ?_
              refine CW.seq ?_
              rcases ans4 (a := M.reply) (p := M.id = t.id) (q := M.qname = t.qname ∧ M.qtype = t.qtype) with h1 | ⟨h1, h2⟩ | ⟨h1, h2, h3⟩ | ⟨h1, h2, h3⟩
              · skip
                refine CW.draw (fun w0 => w0.heap[bm]? = some (.cells (M.cells (.slice Aa M.ans.length ca) (.slice Ab M.auth.length cb)).toArray 33 (0, 0)) ∧ w0.heap[bt]? = some (.cells t.cells.toArray 29 (0, 0))) (by kernel_rfl) ?_
                refine AH.take 0 rfl (by kernel_rfl) (by kernel_rfl) (by kernel_rfl) (fun _ _ _ _ h => h) ⟨hBm, hT⟩ (by decide) (fun w hS => R.loadAgg1 (cs := M.cells (.slice Aa M.ans.length ca) (.slice Ab M.auth.length cb)) Tryd.underlying33 rfl sz33 rfl (fun j u hj => cell_at hS.1 (by rw [Nat.zero_add, List.getElem?_toArray]; exact hj))) ?_
                refine AH.take 1 rfl (by kernel_rfl) (by kernel_rfl) (by kernel_rfl) (fun _ _ _ _ h => h) ⟨hBm, hT⟩ (by decide) (fun w hS => FA33_1 rfl) ?_
                refine AH.take 2 rfl (by kernel_rfl) (by kernel_rfl) (by kernel_rfl) (fun _ _ _ _ h => h) ⟨hBm, hT⟩ (by decide) (fun w hS => R.load (v := .bool false) Tryd.underlying4 rfl rfl (cell_at hS.1 (show _ = some (Value.bool false) from congrArg (fun b => some (Value.bool b)) h1))) ?_
                refine AH.take 3 rfl (by kernel_rfl) (by kernel_rfl) (by kernel_rfl) (fun _ _ _ _ h => h) ⟨hBm, hT⟩ (by decide) (fun w hS => R.move rfl) ?_
                refine AH.pass 4 rfl (by kernel_rfl) (by kernel_rfl) (by kernel_rfl) (fun _ _ _ _ h => h) ⟨hBm, hT⟩ (by decide) rfl rfl rfl ?_
                refine AH.pass 5 rfl (by kernel_rfl) (by kernel_rfl) (by kernel_rfl) (fun _ _ _ _ h => h) ⟨hBm, hT⟩ (by decide) rfl rfl rfl ?_
                refine AH.pass 6 rfl (by kernel_rfl) (by kernel_rfl) (by kernel_rfl) (fun _ _ _ _ h => h) ⟨hBm, hT⟩ (by decide) rfl rfl rfl ?_
                refine AH.pass 7 rfl (by kernel_rfl) (by kernel_rfl) (by kernel_rfl) (fun _ _ _ _ h => h) ⟨hBm, hT⟩ (by decide) rfl rfl rfl ?_
                refine AH.pass 8 rfl (by kernel_rfl) (by kernel_rfl) (by kernel_rfl) (fun _ _ _ _ h => h) ⟨hBm, hT⟩ (by decide) rfl rfl rfl ?_
                refine AH.take 9 rfl (by kernel_rfl) (by kernel_rfl) (by kernel_rfl) (fun _ _ _ _ h => h) ⟨hBm, hT⟩ (by decide) (fun w hS => R.pickF rfl rfl) ?_
                refine AH.take 10 rfl (by kernel_rfl) (by kernel_rfl) (by kernel_rfl) (fun _ _ _ _ h => h) ⟨hBm, hT⟩ (by decide) (fun w hS => R.move rfl) ?_
                refine AH.pass 11 rfl (by kernel_rfl) (by kernel_rfl) (by kernel_rfl) (fun _ _ _ _ h => h) ⟨hBm, hT⟩ (by decide) rfl rfl rfl ?_
                refine AH.pass 12 rfl (by kernel_rfl) (by kernel_rfl) (by kernel_rfl) (fun _ _ _ _ h => h) ⟨hBm, hT⟩ (by decide) rfl rfl rfl ?_
                refine AH.pass 13 rfl (by kernel_rfl) (by kernel_rfl) (by kernel_rfl) (fun _ _ _ _ h => h) ⟨hBm, hT⟩ (by decide) rfl rfl rfl ?_
                refine AH.pass 14 rfl (by kernel_rfl) (by kernel_rfl) (by kernel_rfl) (fun _ _ _ _ h => h) ⟨hBm, hT⟩ (by decide) rfl rfl rfl ?_
                refine AH.pass 15 rfl (by kernel_rfl) (by kernel_rfl) (by kernel_rfl) (fun _ _ _ _ h => h) ⟨hBm, hT⟩ (by decide) rfl rfl rfl ?_
                refine AH.take 16 rfl (by kernel_rfl) (by kernel_rfl) (by kernel_rfl) (fun _ _ _ _ h => h) ⟨hBm, hT⟩ (by decide) (fun w hS => R.pickF rfl rfl) ?_
                refine AH.eff 17 (by kernel_rfl) rfl rfl (OP.storeAgg inf33.choose_spec.1 (by rw [inf33.choose_spec.2]; rfl) rfl rfl (m_all _ _ _ _ _ _ _) hR rfl ?_)
                intro w7 hc7 hs7 hR
                have hC := (hC.trans (Chg.drew _ _)).then hc7 (fun k hk e => by omega)
                have hC2 : Chg (fun k => k = br) w4 w7 := ((hc46.trans (Chg.drew _ _)).mono (fun _ _ e => e.elim)).then hc7 (fun k hk e => e)
                have hS2 := (show _ ∧ _ from ⟨hc7.at hBm (fun e => by omega), hc7.at hT (fun e => by omega)⟩)
                refine ⟨hS2, ?_⟩
                refine AH.take 18 rfl (by kernel_rfl) (by kernel_rfl) (by kernel_rfl) (fun _ _ _ _ h => h) hS2 (by decide) (fun w hS => R.assign rfl) ?_
                refine AH.done (by kernel_rfl) ?_
                have hans : ansT t M = false := by unfold ansT; simp [h1]
                refine EW.next ?_
                refine CW.ret ?_
                exact EW.retCT (.inl rfl) rfl rfl rfl (cs := M.cells (.slice Aa M.ans.length ca) (.slice Ab M.auth.length cb)) Tryd.underlying33 rfl sz33 (fun j u hj => cell_at hR (by rw [List.getElem?_toArray]; exact hj)) ⟨hC, by show MatchRes _ _ _ _ _ _ (some M) _ _; unfold MatchRes; simp only; rw [if_pos (by unfold passT; rw [decide_eq_true (show link = t.link by omega), decide_eq_true (show gen = t.gen by omega), decide_eq_true (show port = t.port by omega)]; simp [*])]; exact ⟨_, by rw [show ansT t M = _ from hans], _, _, rfl, hva.kept hC2 (fun k hk e => by have := hfa k hk; omega), hvb.kept hC2 (fun k hk e => by have := hfb k hk; omega), fun k hk => by have := hfa k hk; have := hc13.size; omega, fun k hk => by have := hfb k hk; have := hc13.size; omega⟩⟩
              · skip
                refine CW.draw (fun w0 => w0.heap[bm]? = some (.cells (M.cells (.slice Aa M.ans.length ca) (.slice Ab M.auth.length cb)).toArray 33 (0, 0)) ∧ w0.heap[bt]? = some (.cells t.cells.toArray 29 (0, 0))) (by kernel_rfl) ?_
                refine AH.take 0 rfl (by kernel_rfl) (by kernel_rfl) (by kernel_rfl) (fun _ _ _ _ h => h) ⟨hBm, hT⟩ (by decide) (fun w hS => R.loadAgg1 (cs := M.cells (.slice Aa M.ans.length ca) (.slice Ab M.auth.length cb)) Tryd.underlying33 rfl sz33 rfl (fun j u hj => cell_at hS.1 (by rw [Nat.zero_add, List.getElem?_toArray]; exact hj))) ?_
                refine AH.take 1 rfl (by kernel_rfl) (by kernel_rfl) (by kernel_rfl) (fun _ _ _ _ h => h) ⟨hBm, hT⟩ (by decide) (fun w hS => FA33_1 rfl) ?_
                refine AH.take 2 rfl (by kernel_rfl) (by kernel_rfl) (by kernel_rfl) (fun _ _ _ _ h => h) ⟨hBm, hT⟩ (by decide) (fun w hS => R.load (v := .bool true) Tryd.underlying4 rfl rfl (cell_at hS.1 (show _ = some (Value.bool true) from congrArg (fun b => some (Value.bool b)) h1))) ?_
                refine AH.take 3 rfl (by kernel_rfl) (by kernel_rfl) (by kernel_rfl) (fun _ _ _ _ h => h) ⟨hBm, hT⟩ (by decide) (fun w hS => R.move rfl) ?_
                refine AH.takeG 4 rfl (by kernel_rfl) (by kernel_rfl) (by kernel_rfl) (fun _ _ _ _ h => h) ⟨hBm, hT⟩ (by decide) rfl rfl rfl (fun w hS => FA33_0 rfl) ?_
                refine AH.takeG 5 rfl (by kernel_rfl) (by kernel_rfl) (by kernel_rfl) (fun _ _ _ _ h => h) ⟨hBm, hT⟩ (by decide) rfl rfl rfl (fun w hS => R.load Tryd.underlying3 rfl rfl (cell_at hS.1 rfl)) ?_
                refine AH.takeG 6 rfl (by kernel_rfl) (by kernel_rfl) (by kernel_rfl) (fun _ _ _ _ h => h) ⟨hBm, hT⟩ (by decide) rfl rfl rfl (fun w hS => FA29_4 rfl) ?_
                refine AH.takeG 7 rfl (by kernel_rfl) (by kernel_rfl) (by kernel_rfl) (fun _ _ _ _ h => h) ⟨hBm, hT⟩ (by decide) rfl rfl rfl (fun w hS => R.load Tryd.underlying3 rfl rfl (cell_at hS.2 (Tr.at20 h16))) ?_
                refine AH.takeG 8 rfl (by kernel_rfl) (by kernel_rfl) (by kernel_rfl) (fun _ _ _ _ h => h) ⟨hBm, hT⟩ (by decide) rfl rfl rfl (fun w hS => R.eql rfl rfl (decide_eq_false h2)) ?_
                refine AH.take 9 rfl (by kernel_rfl) (by kernel_rfl) (by kernel_rfl) (fun _ _ _ _ h => h) ⟨hBm, hT⟩ (by decide) (fun w hS => R.pickT rfl rfl) ?_
                refine AH.take 10 rfl (by kernel_rfl) (by kernel_rfl) (by kernel_rfl) (fun _ _ _ _ h => h) ⟨hBm, hT⟩ (by decide) (fun w hS => R.move rfl) ?_
                refine AH.pass 11 rfl (by kernel_rfl) (by kernel_rfl) (by kernel_rfl) (fun _ _ _ _ h => h) ⟨hBm, hT⟩ (by decide) rfl rfl rfl ?_
                refine AH.pass 12 rfl (by kernel_rfl) (by kernel_rfl) (by kernel_rfl) (fun _ _ _ _ h => h) ⟨hBm, hT⟩ (by decide) rfl rfl rfl ?_
                refine AH.pass 13 rfl (by kernel_rfl) (by kernel_rfl) (by kernel_rfl) (fun _ _ _ _ h => h) ⟨hBm, hT⟩ (by decide) rfl rfl rfl ?_
                refine AH.pass 14 rfl (by kernel_rfl) (by kernel_rfl) (by kernel_rfl) (fun _ _ _ _ h => h) ⟨hBm, hT⟩ (by decide) rfl rfl rfl ?_
                refine AH.pass 15 rfl (by kernel_rfl) (by kernel_rfl) (by kernel_rfl) (fun _ _ _ _ h => h) ⟨hBm, hT⟩ (by decide) rfl rfl rfl ?_
                refine AH.take 16 rfl (by kernel_rfl) (by kernel_rfl) (by kernel_rfl) (fun _ _ _ _ h => h) ⟨hBm, hT⟩ (by decide) (fun w hS => R.pickF rfl rfl) ?_
                refine AH.eff 17 (by kernel_rfl) rfl rfl (OP.storeAgg inf33.choose_spec.1 (by rw [inf33.choose_spec.2]; rfl) rfl rfl (m_all _ _ _ _ _ _ _) hR rfl ?_)
                intro w7 hc7 hs7 hR
                have hC := (hC.trans (Chg.drew _ _)).then hc7 (fun k hk e => by omega)
                have hC2 : Chg (fun k => k = br) w4 w7 := ((hc46.trans (Chg.drew _ _)).mono (fun _ _ e => e.elim)).then hc7 (fun k hk e => e)
                have hS2 := (show _ ∧ _ from ⟨hc7.at hBm (fun e => by omega), hc7.at hT (fun e => by omega)⟩)
                refine ⟨hS2, ?_⟩
                refine AH.take 18 rfl (by kernel_rfl) (by kernel_rfl) (by kernel_rfl) (fun _ _ _ _ h => h) hS2 (by decide) (fun w hS => R.assign rfl) ?_
                refine AH.done (by kernel_rfl) ?_
                have hans : ansT t M = false := by unfold ansT; simp [h2]
                refine EW.next ?_
                refine CW.ret ?_
                exact EW.retCT (.inl rfl) rfl rfl rfl (cs := M.cells (.slice Aa M.ans.length ca) (.slice Ab M.auth.length cb)) Tryd.underlying33 rfl sz33 (fun j u hj => cell_at hR (by rw [List.getElem?_toArray]; exact hj)) ⟨hC, by show MatchRes _ _ _ _ _ _ (some M) _ _; unfold MatchRes; simp only; rw [if_pos (by unfold passT; rw [decide_eq_true (show link = t.link by omega), decide_eq_true (show gen = t.gen by omega), decide_eq_true (show port = t.port by omega)]; simp [*])]; exact ⟨_, by rw [show ansT t M = _ from hans], _, _, rfl, hva.kept hC2 (fun k hk e => by have := hfa k hk; omega), hvb.kept hC2 (fun k hk e => by have := hfb k hk; omega), fun k hk => by have := hfa k hk; have := hc13.size; omega, fun k hk => by have := hfb k hk; have := hc13.size; omega⟩⟩
              · skip
                refine CW.draw (fun w0 => w0.heap[bm]? = some (.cells (M.cells (.slice Aa M.ans.length ca) (.slice Ab M.auth.length cb)).toArray 33 (0, 0)) ∧ w0.heap[bt]? = some (.cells t.cells.toArray 29 (0, 0))) (by kernel_rfl) ?_
                refine AH.take 0 rfl (by kernel_rfl) (by kernel_rfl) (by kernel_rfl) (fun _ _ _ _ h => h) ⟨hBm, hT⟩ (by decide) (fun w hS => R.loadAgg1 (cs := M.cells (.slice Aa M.ans.length ca) (.slice Ab M.auth.length cb)) Tryd.underlying33 rfl sz33 rfl (fun j u hj => cell_at hS.1 (by rw [Nat.zero_add, List.getElem?_toArray]; exact hj))) ?_
                refine AH.take 1 rfl (by kernel_rfl) (by kernel_rfl) (by kernel_rfl) (fun _ _ _ _ h => h) ⟨hBm, hT⟩ (by decide) (fun w hS => FA33_1 rfl) ?_
                refine AH.take 2 rfl (by kernel_rfl) (by kernel_rfl) (by kernel_rfl) (fun _ _ _ _ h => h) ⟨hBm, hT⟩ (by decide) (fun w hS => R.load (v := .bool true) Tryd.underlying4 rfl rfl (cell_at hS.1 (show _ = some (Value.bool true) from congrArg (fun b => some (Value.bool b)) h1))) ?_
                refine AH.take 3 rfl (by kernel_rfl) (by kernel_rfl) (by kernel_rfl) (fun _ _ _ _ h => h) ⟨hBm, hT⟩ (by decide) (fun w hS => R.move rfl) ?_
                refine AH.takeG 4 rfl (by kernel_rfl) (by kernel_rfl) (by kernel_rfl) (fun _ _ _ _ h => h) ⟨hBm, hT⟩ (by decide) rfl rfl rfl (fun w hS => FA33_0 rfl) ?_
                refine AH.takeG 5 rfl (by kernel_rfl) (by kernel_rfl) (by kernel_rfl) (fun _ _ _ _ h => h) ⟨hBm, hT⟩ (by decide) rfl rfl rfl (fun w hS => R.load Tryd.underlying3 rfl rfl (cell_at hS.1 rfl)) ?_
                refine AH.takeG 6 rfl (by kernel_rfl) (by kernel_rfl) (by kernel_rfl) (fun _ _ _ _ h => h) ⟨hBm, hT⟩ (by decide) rfl rfl rfl (fun w hS => FA29_4 rfl) ?_
                refine AH.takeG 7 rfl (by kernel_rfl) (by kernel_rfl) (by kernel_rfl) (fun _ _ _ _ h => h) ⟨hBm, hT⟩ (by decide) rfl rfl rfl (fun w hS => R.load Tryd.underlying3 rfl rfl (cell_at hS.2 (Tr.at20 h16))) ?_
                refine AH.takeG 8 rfl (by kernel_rfl) (by kernel_rfl) (by kernel_rfl) (fun _ _ _ _ h => h) ⟨hBm, hT⟩ (by decide) rfl rfl rfl (fun w hS => R.eql rfl rfl (decide_eq_true h2)) ?_
                refine AH.take 9 rfl (by kernel_rfl) (by kernel_rfl) (by kernel_rfl) (fun _ _ _ _ h => h) ⟨hBm, hT⟩ (by decide) (fun w hS => R.pickT rfl rfl) ?_
                refine AH.take 10 rfl (by kernel_rfl) (by kernel_rfl) (by kernel_rfl) (fun _ _ _ _ h => h) ⟨hBm, hT⟩ (by decide) (fun w hS => R.move rfl) ?_
                refine AH.takeG 11 rfl (by kernel_rfl) (by kernel_rfl) (by kernel_rfl) (fun _ _ _ _ h => h) ⟨hBm, hT⟩ (by decide) rfl rfl rfl (fun w hS => FA33_5 rfl) ?_
                refine AH.takeG 12 rfl (by kernel_rfl) (by kernel_rfl) (by kernel_rfl) (fun _ _ _ _ h => h) ⟨hBm, hT⟩ (by decide) rfl rfl rfl (fun w hS => R.loadAgg1 (cs := [sv M.qname, .int .i64 M.qtype]) Tryd.underlying25 rfl sz25 rfl (fun j u hj => cell_at hS.1 (by match j, hj with | 0, hj => exact hj | 1, hj => exact hj))) ?_
                refine AH.takeG 13 rfl (by kernel_rfl) (by kernel_rfl) (by kernel_rfl) (fun _ _ _ _ h => h) ⟨hBm, hT⟩ (by decide) rfl rfl rfl (fun w hS => FA29_0 rfl) ?_
                refine AH.takeG 14 rfl (by kernel_rfl) (by kernel_rfl) (by kernel_rfl) (fun _ _ _ _ h => h) ⟨hBm, hT⟩ (by decide) rfl rfl rfl (fun w hS => R.loadAgg1 (cs := [sv t.qname, .int .i64 t.qtype]) Tryd.underlying25 rfl sz25 rfl (fun j u hj => cell_at hS.2 (by match j, hj with | 0, hj => exact hj | 1, hj => exact hj))) ?_
                refine AH.takeG 15 rfl (by kernel_rfl) (by kernel_rfl) (by kernel_rfl) (fun _ _ _ _ h => h) ⟨hBm, hT⟩ (by decide) rfl rfl rfl (fun w hS => R.eql25 (a := M.qname) (b := t.qname) (m := M.qtype) (n := t.qtype) rfl rfl (decide_eq_false h3)) ?_
                refine AH.take 16 rfl (by kernel_rfl) (by kernel_rfl) (by kernel_rfl) (fun _ _ _ _ h => h) ⟨hBm, hT⟩ (by decide) (fun w hS => R.pickT rfl rfl) ?_
                refine AH.eff 17 (by kernel_rfl) rfl rfl (OP.storeAgg inf33.choose_spec.1 (by rw [inf33.choose_spec.2]; rfl) rfl rfl (m_all _ _ _ _ _ _ _) hR rfl ?_)
                intro w7 hc7 hs7 hR
                have hC := (hC.trans (Chg.drew _ _)).then hc7 (fun k hk e => by omega)
                have hC2 : Chg (fun k => k = br) w4 w7 := ((hc46.trans (Chg.drew _ _)).mono (fun _ _ e => e.elim)).then hc7 (fun k hk e => e)
                have hS2 := (show _ ∧ _ from ⟨hc7.at hBm (fun e => by omega), hc7.at hT (fun e => by omega)⟩)
                refine ⟨hS2, ?_⟩
                refine AH.take 18 rfl (by kernel_rfl) (by kernel_rfl) (by kernel_rfl) (fun _ _ _ _ h => h) hS2 (by decide) (fun w hS => R.assign rfl) ?_
                refine AH.done (by kernel_rfl) ?_
                have hans : ansT t M = false := by unfold ansT; simp; intro _ _ h4; exact fun h5 => h3 ⟨h4, h5⟩
                refine EW.next ?_
                refine CW.ret ?_
                exact EW.retCT (.inl rfl) rfl rfl rfl (cs := M.cells (.slice Aa M.ans.length ca) (.slice Ab M.auth.length cb)) Tryd.underlying33 rfl sz33 (fun j u hj => cell_at hR (by rw [List.getElem?_toArray]; exact hj)) ⟨hC, by show MatchRes _ _ _ _ _ _ (some M) _ _; unfold MatchRes; simp only; rw [if_pos (by unfold passT; rw [decide_eq_true (show link = t.link by omega), decide_eq_true (show gen = t.gen by omega), decide_eq_true (show port = t.port by omega)]; simp [*])]; exact ⟨_, by rw [show ansT t M = _ from hans], _, _, rfl, hva.kept hC2 (fun k hk e => by have := hfa k hk; omega), hvb.kept hC2 (fun k hk e => by have := hfb k hk; omega), fun k hk => by have := hfa k hk; have := hc13.size; omega, fun k hk => by have := hfb k hk; have := hc13.size; omega⟩⟩
              · skip
                refine CW.draw (fun w0 => w0.heap[bm]? = some (.cells (M.cells (.slice Aa M.ans.length ca) (.slice Ab M.auth.length cb)).toArray 33 (0, 0)) ∧ w0.heap[bt]? = some (.cells t.cells.toArray 29 (0, 0))) (by kernel_rfl) ?_
                refine AH.take 0 rfl (by kernel_rfl) (by kernel_rfl) (by kernel_rfl) (fun _ _ _ _ h => h) ⟨hBm, hT⟩ (by decide) (fun w hS => R.loadAgg1 (cs := M.cells (.slice Aa M.ans.length ca) (.slice Ab M.auth.length cb)) Tryd.underlying33 rfl sz33 rfl (fun j u hj => cell_at hS.1 (by rw [Nat.zero_add, List.getElem?_toArray]; exact hj))) ?_
                refine AH.take 1 rfl (by kernel_rfl) (by kernel_rfl) (by kernel_rfl) (fun _ _ _ _ h => h) ⟨hBm, hT⟩ (by decide) (fun w hS => FA33_1 rfl) ?_
                refine AH.take 2 rfl (by kernel_rfl) (by kernel_rfl) (by kernel_rfl) (fun _ _ _ _ h => h) ⟨hBm, hT⟩ (by decide) (fun w hS => R.load (v := .bool true) Tryd.underlying4 rfl rfl (cell_at hS.1 (show _ = some (Value.bool true) from congrArg (fun b => some (Value.bool b)) h1))) ?_
                refine AH.take 3 rfl (by kernel_rfl) (by kernel_rfl) (by kernel_rfl) (fun _ _ _ _ h => h) ⟨hBm, hT⟩ (by decide) (fun w hS => R.move rfl) ?_
                refine AH.takeG 4 rfl (by kernel_rfl) (by kernel_rfl) (by kernel_rfl) (fun _ _ _ _ h => h) ⟨hBm, hT⟩ (by decide) rfl rfl rfl (fun w hS => FA33_0 rfl) ?_
                refine AH.takeG 5 rfl (by kernel_rfl) (by kernel_rfl) (by kernel_rfl) (fun _ _ _ _ h => h) ⟨hBm, hT⟩ (by decide) rfl rfl rfl (fun w hS => R.load Tryd.underlying3 rfl rfl (cell_at hS.1 rfl)) ?_
                refine AH.takeG 6 rfl (by kernel_rfl) (by kernel_rfl) (by kernel_rfl) (fun _ _ _ _ h => h) ⟨hBm, hT⟩ (by decide) rfl rfl rfl (fun w hS => FA29_4 rfl) ?_
                refine AH.takeG 7 rfl (by kernel_rfl) (by kernel_rfl) (by kernel_rfl) (fun _ _ _ _ h => h) ⟨hBm, hT⟩ (by decide) rfl rfl rfl (fun w hS => R.load Tryd.underlying3 rfl rfl (cell_at hS.2 (Tr.at20 h16))) ?_
                refine AH.takeG 8 rfl (by kernel_rfl) (by kernel_rfl) (by kernel_rfl) (fun _ _ _ _ h => h) ⟨hBm, hT⟩ (by decide) rfl rfl rfl (fun w hS => R.eql rfl rfl (decide_eq_true h2)) ?_
                refine AH.take 9 rfl (by kernel_rfl) (by kernel_rfl) (by kernel_rfl) (fun _ _ _ _ h => h) ⟨hBm, hT⟩ (by decide) (fun w hS => R.pickT rfl rfl) ?_
                refine AH.take 10 rfl (by kernel_rfl) (by kernel_rfl) (by kernel_rfl) (fun _ _ _ _ h => h) ⟨hBm, hT⟩ (by decide) (fun w hS => R.move rfl) ?_
                refine AH.takeG 11 rfl (by kernel_rfl) (by kernel_rfl) (by kernel_rfl) (fun _ _ _ _ h => h) ⟨hBm, hT⟩ (by decide) rfl rfl rfl (fun w hS => FA33_5 rfl) ?_
                refine AH.takeG 12 rfl (by kernel_rfl) (by kernel_rfl) (by kernel_rfl) (fun _ _ _ _ h => h) ⟨hBm, hT⟩ (by decide) rfl rfl rfl (fun w hS => R.loadAgg1 (cs := [sv M.qname, .int .i64 M.qtype]) Tryd.underlying25 rfl sz25 rfl (fun j u hj => cell_at hS.1 (by match j, hj with | 0, hj => exact hj | 1, hj => exact hj))) ?_
                refine AH.takeG 13 rfl (by kernel_rfl) (by kernel_rfl) (by kernel_rfl) (fun _ _ _ _ h => h) ⟨hBm, hT⟩ (by decide) rfl rfl rfl (fun w hS => FA29_0 rfl) ?_
                refine AH.takeG 14 rfl (by kernel_rfl) (by kernel_rfl) (by kernel_rfl) (fun _ _ _ _ h => h) ⟨hBm, hT⟩ (by decide) rfl rfl rfl (fun w hS => R.loadAgg1 (cs := [sv t.qname, .int .i64 t.qtype]) Tryd.underlying25 rfl sz25 rfl (fun j u hj => cell_at hS.2 (by match j, hj with | 0, hj => exact hj | 1, hj => exact hj))) ?_
                refine AH.takeG 15 rfl (by kernel_rfl) (by kernel_rfl) (by kernel_rfl) (fun _ _ _ _ h => h) ⟨hBm, hT⟩ (by decide) rfl rfl rfl (fun w hS => R.eql25 (a := M.qname) (b := t.qname) (m := M.qtype) (n := t.qtype) rfl rfl (decide_eq_true h3)) ?_
                refine AH.take 16 rfl (by kernel_rfl) (by kernel_rfl) (by kernel_rfl) (fun _ _ _ _ h => h) ⟨hBm, hT⟩ (by decide) (fun w hS => R.pickT rfl rfl) ?_
                refine AH.eff 17 (by kernel_rfl) rfl rfl (OP.storeAgg inf33.choose_spec.1 (by rw [inf33.choose_spec.2]; rfl) rfl rfl (m_all _ _ _ _ _ _ _) hR rfl ?_)
                intro w7 hc7 hs7 hR
                have hC := (hC.trans (Chg.drew _ _)).then hc7 (fun k hk e => by omega)
                have hC2 : Chg (fun k => k = br) w4 w7 := ((hc46.trans (Chg.drew _ _)).mono (fun _ _ e => e.elim)).then hc7 (fun k hk e => e)
                have hS2 := (show _ ∧ _ from ⟨hc7.at hBm (fun e => by omega), hc7.at hT (fun e => by omega)⟩)
                refine ⟨hS2, ?_⟩
                refine AH.take 18 rfl (by kernel_rfl) (by kernel_rfl) (by kernel_rfl) (fun _ _ _ _ h => h) hS2 (by decide) (fun w hS => R.assign rfl) ?_
                refine AH.done (by kernel_rfl) ?_
                have hans : ansT t M = true := by unfold ansT; simp [h1, h2, h3.1, h3.2]
                refine EW.next ?_
                refine CW.ret ?_
                exact EW.retCT (.inl rfl) rfl rfl rfl (cs := M.cells (.slice Aa M.ans.length ca) (.slice Ab M.auth.length cb)) Tryd.underlying33 rfl sz33 (fun j u hj => cell_at hR (by rw [List.getElem?_toArray]; exact hj)) ⟨hC, by show MatchRes _ _ _ _ _ _ (some M) _ _; unfold MatchRes; simp only; rw [if_pos (by unfold passT; rw [decide_eq_true (show link = t.link by omega), decide_eq_true (show gen = t.gen by omega), decide_eq_true (show port = t.port by omega)]; simp [*])]; exact ⟨_, by rw [show ansT t M = _ from hans], _, _, rfl, hva.kept hC2 (fun k hk e => by have := hfa k hk; omega), hvb.kept hC2 (fun k hk e => by have := hfb k hk; omega), fun k hk => by have := hfa k hk; have := hc13.size; omega, fun k hk => by have := hfb k hk; have := hc13.size; omega⟩⟩
            · skip
              refine WL.gop (by decide) rfl rfl rfl (R.neq27 (c := true) (a := frm) (b := t.to) hf16 h16 rfl rfl (by simp [hto])) ?_
              refine WL.gop (by decide) rfl rfl rfl (R.pickT rfl rfl) ?_
              refine WL.op (by decide) (R.pickF rfl rfl) ?_
              refine WL.next ?_
              refine CW.condT rfl ?_
              refine CW.rseq ?_
              refine WL.op (by decide) (R.build (parts := []) (vals := []) rfl (fun w => build33_0 w)) ?_
              refine WL.eff rfl (OP.storeAgg inf33.choose_spec.1 (by rw [inf33.choose_spec.2]; rfl) rfl rfl (m_all _ _ _ _ _ _ _) hR rfl ?_)
              intro w7 hc7 hs7 hR
              have hC := hC.then hc7 (fun k hk e => by omega)
              refine WL.op (by decide) (R.assign rfl) ?_
              refine WL.next ?_
              refine CW.ret ?_
              refine EW.thenRet ?_
              exact EW.retCT (.inl rfl) rfl rfl rfl (cs := Msg.cells ⟨0, false, false, false, 0, [], 0, [], []⟩ (.slice none 0 0) (.slice none 0 0)) Tryd.underlying33 rfl sz33 (fun j u hj => cell_at hR (by rw [List.getElem?_toArray]; exact hj)) ⟨hC, by show MatchRes _ _ _ _ _ _ (some M) _ _; unfold MatchRes; simp only; rw [if_neg (by unfold passT; simp [*])]; rfl⟩
          · skip
            refine WL.gop (by decide) rfl rfl rfl (R.load (v := .bool true) Tryd.underlying4 rfl rfl (cell_at hT ((Tr.at23 h16).trans (by rw [hgr])))) ?_
            refine WL.gop (by decide) rfl rfl rfl (R.not rfl) ?_
            refine WL.gop (by decide) rfl rfl rfl (R.move rfl) ?_
            refine WL.pass (by decide) rfl rfl rfl ?_
            refine WL.pass (by decide) rfl rfl rfl ?_
            refine WL.pass (by decide) rfl rfl rfl ?_
            refine WL.pass (by decide) rfl rfl rfl ?_
            refine WL.gop (by decide) rfl rfl rfl (R.pickF rfl rfl) ?_
            refine WL.op (by decide) (R.pickF rfl rfl) ?_
            refine WL.next ?_
            refine CW.condF rfl ?_
            refine CW.skip ?_
            refine EW.next ?_
            refine CW.seq ?_
            rcases ans4 (a := M.reply) (p := M.id = t.id) (q := M.qname = t.qname ∧ M.qtype = t.qtype) with h1 | ⟨h1, h2⟩ | ⟨h1, h2, h3⟩ | ⟨h1, h2, h3⟩
            · skip
              refine CW.draw (fun w0 => w0.heap[bm]? = some (.cells (M.cells (.slice Aa M.ans.length ca) (.slice Ab M.auth.length cb)).toArray 33 (0, 0)) ∧ w0.heap[bt]? = some (.cells t.cells.toArray 29 (0, 0))) (by kernel_rfl) ?_
              refine AH.take 0 rfl (by kernel_rfl) (by kernel_rfl) (by kernel_rfl) (fun _ _ _ _ h => h) ⟨hBm, hT⟩ (by decide) (fun w hS => R.loadAgg1 (cs := M.cells (.slice Aa M.ans.length ca) (.slice Ab M.auth.length cb)) Tryd.underlying33 rfl sz33 rfl (fun j u hj => cell_at hS.1 (by rw [Nat.zero_add, List.getElem?_toArray]; exact hj))) ?_
              refine AH.take 1 rfl (by kernel_rfl) (by kernel_rfl) (by kernel_rfl) (fun _ _ _ _ h => h) ⟨hBm, hT⟩ (by decide) (fun w hS => FA33_1 rfl) ?_
              refine AH.take 2 rfl (by kernel_rfl) (by kernel_rfl) (by kernel_rfl) (fun _ _ _ _ h => h) ⟨hBm, hT⟩ (by decide) (fun w hS => R.load (v := .bool false) Tryd.underlying4 rfl rfl (cell_at hS.1 (show _ = some (Value.bool false) from congrArg (fun b => some (Value.bool b)) h1))) ?_
              refine AH.take 3 rfl (by kernel_rfl) (by kernel_rfl) (by kernel_rfl) (fun _ _ _ _ h => h) ⟨hBm, hT⟩ (by decide) (fun w hS => R.move rfl) ?_
              refine AH.pass 4 rfl (by kernel_rfl) (by kernel_rfl) (by kernel_rfl) (fun _ _ _ _ h => h) ⟨hBm, hT⟩ (by decide) rfl rfl rfl ?_
              refine AH.pass 5 rfl (by kernel_rfl) (by kernel_rfl) (by kernel_rfl) (fun _ _ _ _ h => h) ⟨hBm, hT⟩ (by decide) rfl rfl rfl ?_
              refine AH.pass 6 rfl (by kernel_rfl) (by kernel_rfl) (by kernel_rfl) (fun _ _ _ _ h => h) ⟨hBm, hT⟩ (by decide) rfl rfl rfl ?_
              refine AH.pass 7 rfl (by kernel_rfl) (by kernel_rfl) (by kernel_rfl) (fun _ _ _ _ h => h) ⟨hBm, hT⟩ (by decide) rfl rfl rfl ?_
              refine AH.pass 8 rfl (by kernel_rfl) (by kernel_rfl) (by kernel_rfl) (fun _ _ _ _ h => h) ⟨hBm, hT⟩ (by decide) rfl rfl rfl ?_
              refine AH.take 9 rfl (by kernel_rfl) (by kernel_rfl) (by kernel_rfl) (fun _ _ _ _ h => h) ⟨hBm, hT⟩ (by decide) (fun w hS => R.pickF rfl rfl) ?_
              refine AH.take 10 rfl (by kernel_rfl) (by kernel_rfl) (by kernel_rfl) (fun _ _ _ _ h => h) ⟨hBm, hT⟩ (by decide) (fun w hS => R.move rfl) ?_
              refine AH.pass 11 rfl (by kernel_rfl) (by kernel_rfl) (by kernel_rfl) (fun _ _ _ _ h => h) ⟨hBm, hT⟩ (by decide) rfl rfl rfl ?_
              refine AH.pass 12 rfl (by kernel_rfl) (by kernel_rfl) (by kernel_rfl) (fun _ _ _ _ h => h) ⟨hBm, hT⟩ (by decide) rfl rfl rfl ?_
              refine AH.pass 13 rfl (by kernel_rfl) (by kernel_rfl) (by kernel_rfl) (fun _ _ _ _ h => h) ⟨hBm, hT⟩ (by decide) rfl rfl rfl ?_
              refine AH.pass 14 rfl (by kernel_rfl) (by kernel_rfl) (by kernel_rfl) (fun _ _ _ _ h => h) ⟨hBm, hT⟩ (by decide) rfl rfl rfl ?_
              refine AH.pass 15 rfl (by kernel_rfl) (by kernel_rfl) (by kernel_rfl) (fun _ _ _ _ h => h) ⟨hBm, hT⟩ (by decide) rfl rfl rfl ?_
              refine AH.take 16 rfl (by kernel_rfl) (by kernel_rfl) (by kernel_rfl) (fun _ _ _ _ h => h) ⟨hBm, hT⟩ (by decide) (fun w hS => R.pickF rfl rfl) ?_
              refine AH.eff 17 (by kernel_rfl) rfl rfl (OP.storeAgg inf33.choose_spec.1 (by rw [inf33.choose_spec.2]; rfl) rfl rfl (m_all _ _ _ _ _ _ _) hR rfl ?_)
              intro w7 hc7 hs7 hR
              have hC := (hC.trans (Chg.drew _ _)).then hc7 (fun k hk e => by omega)
              have hC2 : Chg (fun k => k = br) w4 w7 := ((hc46.trans (Chg.drew _ _)).mono (fun _ _ e => e.elim)).then hc7 (fun k hk e => e)
              have hS2 := (show _ ∧ _ from ⟨hc7.at hBm (fun e => by omega), hc7.at hT (fun e => by omega)⟩)
              refine ⟨hS2, ?_⟩
              refine AH.take 18 rfl (by kernel_rfl) (by kernel_rfl) (by kernel_rfl) (fun _ _ _ _ h => h) hS2 (by decide) (fun w hS => R.assign rfl) ?_
              refine AH.done (by kernel_rfl) ?_
              have hans : ansT t M = false := by unfold ansT; simp [h1]
              refine EW.next ?_
              refine CW.ret ?_
              exact EW.retCT (.inl rfl) rfl rfl rfl (cs := M.cells (.slice Aa M.ans.length ca) (.slice Ab M.auth.length cb)) Tryd.underlying33 rfl sz33 (fun j u hj => cell_at hR (by rw [List.getElem?_toArray]; exact hj)) ⟨hC, by show MatchRes _ _ _ _ _ _ (some M) _ _; unfold MatchRes; simp only; rw [if_pos (by unfold passT; rw [decide_eq_true (show link = t.link by omega), decide_eq_true (show gen = t.gen by omega), decide_eq_true (show port = t.port by omega)]; simp [*])]; exact ⟨_, by rw [show ansT t M = _ from hans], _, _, rfl, hva.kept hC2 (fun k hk e => by have := hfa k hk; omega), hvb.kept hC2 (fun k hk e => by have := hfb k hk; omega), fun k hk => by have := hfa k hk; have := hc13.size; omega, fun k hk => by have := hfb k hk; have := hc13.size; omega⟩⟩
            · skip
              refine CW.draw (fun w0 => w0.heap[bm]? = some (.cells (M.cells (.slice Aa M.ans.length ca) (.slice Ab M.auth.length cb)).toArray 33 (0, 0)) ∧ w0.heap[bt]? = some (.cells t.cells.toArray 29 (0, 0))) (by kernel_rfl) ?_
              refine AH.take 0 rfl (by kernel_rfl) (by kernel_rfl) (by kernel_rfl) (fun _ _ _ _ h => h) ⟨hBm, hT⟩ (by decide) (fun w hS => R.loadAgg1 (cs := M.cells (.slice Aa M.ans.length ca) (.slice Ab M.auth.length cb)) Tryd.underlying33 rfl sz33 rfl (fun j u hj => cell_at hS.1 (by rw [Nat.zero_add, List.getElem?_toArray]; exact hj))) ?_
              refine AH.take 1 rfl (by kernel_rfl) (by kernel_rfl) (by kernel_rfl) (fun _ _ _ _ h => h) ⟨hBm, hT⟩ (by decide) (fun w hS => FA33_1 rfl) ?_
              refine AH.take 2 rfl (by kernel_rfl) (by kernel_rfl) (by kernel_rfl) (fun _ _ _ _ h => h) ⟨hBm, hT⟩ (by decide) (fun w hS => R.load (v := .bool true) Tryd.underlying4 rfl rfl (cell_at hS.1 (show _ = some (Value.bool true) from congrArg (fun b => some (Value.bool b)) h1))) ?_
              refine AH.take 3 rfl (by kernel_rfl) (by kernel_rfl) (by kernel_rfl) (fun _ _ _ _ h => h) ⟨hBm, hT⟩ (by decide) (fun w hS => R.move rfl) ?_
              refine AH.takeG 4 rfl (by kernel_rfl) (by kernel_rfl) (by kernel_rfl) (fun _ _ _ _ h => h) ⟨hBm, hT⟩ (by decide) rfl rfl rfl (fun w hS => FA33_0 rfl) ?_
              refine AH.takeG 5 rfl (by kernel_rfl) (by kernel_rfl) (by kernel_rfl) (fun _ _ _ _ h => h) ⟨hBm, hT⟩ (by decide) rfl rfl rfl (fun w hS => R.load Tryd.underlying3 rfl rfl (cell_at hS.1 rfl)) ?_
              refine AH.takeG 6 rfl (by kernel_rfl) (by kernel_rfl) (by kernel_rfl) (fun _ _ _ _ h => h) ⟨hBm, hT⟩ (by decide) rfl rfl rfl (fun w hS => FA29_4 rfl) ?_
              refine AH.takeG 7 rfl (by kernel_rfl) (by kernel_rfl) (by kernel_rfl) (fun _ _ _ _ h => h) ⟨hBm, hT⟩ (by decide) rfl rfl rfl (fun w hS => R.load Tryd.underlying3 rfl rfl (cell_at hS.2 (Tr.at20 h16))) ?_
              refine AH.takeG 8 rfl (by kernel_rfl) (by kernel_rfl) (by kernel_rfl) (fun _ _ _ _ h => h) ⟨hBm, hT⟩ (by decide) rfl rfl rfl (fun w hS => R.eql rfl rfl (decide_eq_false h2)) ?_
              refine AH.take 9 rfl (by kernel_rfl) (by kernel_rfl) (by kernel_rfl) (fun _ _ _ _ h => h) ⟨hBm, hT⟩ (by decide) (fun w hS => R.pickT rfl rfl) ?_
              refine AH.take 10 rfl (by kernel_rfl) (by kernel_rfl) (by kernel_rfl) (fun _ _ _ _ h => h) ⟨hBm, hT⟩ (by decide) (fun w hS => R.move rfl) ?_
              refine AH.pass 11 rfl (by kernel_rfl) (by kernel_rfl) (by kernel_rfl) (fun _ _ _ _ h => h) ⟨hBm, hT⟩ (by decide) rfl rfl rfl ?_
              refine AH.pass 12 rfl (by kernel_rfl) (by kernel_rfl) (by kernel_rfl) (fun _ _ _ _ h => h) ⟨hBm, hT⟩ (by decide) rfl rfl rfl ?_
              refine AH.pass 13 rfl (by kernel_rfl) (by kernel_rfl) (by kernel_rfl) (fun _ _ _ _ h => h) ⟨hBm, hT⟩ (by decide) rfl rfl rfl ?_
              refine AH.pass 14 rfl (by kernel_rfl) (by kernel_rfl) (by kernel_rfl) (fun _ _ _ _ h => h) ⟨hBm, hT⟩ (by decide) rfl rfl rfl ?_
              refine AH.pass 15 rfl (by kernel_rfl) (by kernel_rfl) (by kernel_rfl) (fun _ _ _ _ h => h) ⟨hBm, hT⟩ (by decide) rfl rfl rfl ?_
              refine AH.take 16 rfl (by kernel_rfl) (by kernel_rfl) (by kernel_rfl) (fun _ _ _ _ h => h) ⟨hBm, hT⟩ (by decide) (fun w hS => R.pickF rfl rfl) ?_
              refine AH.eff 17 (by kernel_rfl) rfl rfl (OP.storeAgg inf33.choose_spec.1 (by rw [inf33.choose_spec.2]; rfl) rfl rfl (m_all _ _ _ _ _ _ _) hR rfl ?_)
              intro w7 hc7 hs7 hR
              have hC := (hC.trans (Chg.drew _ _)).then hc7 (fun k hk e => by omega)
              have hC2 : Chg (fun k => k = br) w4 w7 := ((hc46.trans (Chg.drew _ _)).mono (fun _ _ e => e.elim)).then hc7 (fun k hk e => e)
              have hS2 := (show _ ∧ _ from ⟨hc7.at hBm (fun e => by omega), hc7.at hT (fun e => by omega)⟩)
              refine ⟨hS2, ?_⟩
              refine AH.take 18 rfl (by kernel_rfl) (by kernel_rfl) (by kernel_rfl) (fun _ _ _ _ h => h) hS2 (by decide) (fun w hS => R.assign rfl) ?_
              refine AH.done (by kernel_rfl) ?_
              have hans : ansT t M = false := by unfold ansT; simp [h2]
              refine EW.next ?_
              refine CW.ret ?_
              exact EW.retCT (.inl rfl) rfl rfl rfl (cs := M.cells (.slice Aa M.ans.length ca) (.slice Ab M.auth.length cb)) Tryd.underlying33 rfl sz33 (fun j u hj => cell_at hR (by rw [List.getElem?_toArray]; exact hj)) ⟨hC, by show MatchRes _ _ _ _ _ _ (some M) _ _; unfold MatchRes; simp only; rw [if_pos (by unfold passT; rw [decide_eq_true (show link = t.link by omega), decide_eq_true (show gen = t.gen by omega), decide_eq_true (show port = t.port by omega)]; simp [*])]; exact ⟨_, by rw [show ansT t M = _ from hans], _, _, rfl, hva.kept hC2 (fun k hk e => by have := hfa k hk; omega), hvb.kept hC2 (fun k hk e => by have := hfb k hk; omega), fun k hk => by have := hfa k hk; have := hc13.size; omega, fun k hk => by have := hfb k hk; have := hc13.size; omega⟩⟩
            · skip
              refine CW.draw (fun w0 => w0.heap[bm]? = some (.cells (M.cells (.slice Aa M.ans.length ca) (.slice Ab M.auth.length cb)).toArray 33 (0, 0)) ∧ w0.heap[bt]? = some (.cells t.cells.toArray 29 (0, 0))) (by kernel_rfl) ?_
              refine AH.take 0 rfl (by kernel_rfl) (by kernel_rfl) (by kernel_rfl) (fun _ _ _ _ h => h) ⟨hBm, hT⟩ (by decide) (fun w hS => R.loadAgg1 (cs := M.cells (.slice Aa M.ans.length ca) (.slice Ab M.auth.length cb)) Tryd.underlying33 rfl sz33 rfl (fun j u hj => cell_at hS.1 (by rw [Nat.zero_add, List.getElem?_toArray]; exact hj))) ?_
              refine AH.take 1 rfl (by kernel_rfl) (by kernel_rfl) (by kernel_rfl) (fun _ _ _ _ h => h) ⟨hBm, hT⟩ (by decide) (fun w hS => FA33_1 rfl) ?_
              refine AH.take 2 rfl (by kernel_rfl) (by kernel_rfl) (by kernel_rfl) (fun _ _ _ _ h => h) ⟨hBm, hT⟩ (by decide) (fun w hS => R.load (v := .bool true) Tryd.underlying4 rfl rfl (cell_at hS.1 (show _ = some (Value.bool true) from congrArg (fun b => some (Value.bool b)) h1))) ?_
              refine AH.take 3 rfl (by kernel_rfl) (by kernel_rfl) (by kernel_rfl) (fun _ _ _ _ h => h) ⟨hBm, hT⟩ (by decide) (fun w hS => R.move rfl) ?_
              refine AH.takeG 4 rfl (by kernel_rfl) (by kernel_rfl) (by kernel_rfl) (fun _ _ _ _ h => h) ⟨hBm, hT⟩ (by decide) rfl rfl rfl (fun w hS => FA33_0 rfl) ?_
              refine AH.takeG 5 rfl (by kernel_rfl) (by kernel_rfl) (by kernel_rfl) (fun _ _ _ _ h => h) ⟨hBm, hT⟩ (by decide) rfl rfl rfl (fun w hS => R.load Tryd.underlying3 rfl rfl (cell_at hS.1 rfl)) ?_
              refine AH.takeG 6 rfl (by kernel_rfl) (by kernel_rfl) (by kernel_rfl) (fun _ _ _ _ h => h) ⟨hBm, hT⟩ (by decide) rfl rfl rfl (fun w hS => FA29_4 rfl) ?_
              refine AH.takeG 7 rfl (by kernel_rfl) (by kernel_rfl) (by kernel_rfl) (fun _ _ _ _ h => h) ⟨hBm, hT⟩ (by decide) rfl rfl rfl (fun w hS => R.load Tryd.underlying3 rfl rfl (cell_at hS.2 (Tr.at20 h16))) ?_
              refine AH.takeG 8 rfl (by kernel_rfl) (by kernel_rfl) (by kernel_rfl) (fun _ _ _ _ h => h) ⟨hBm, hT⟩ (by decide) rfl rfl rfl (fun w hS => R.eql rfl rfl (decide_eq_true h2)) ?_
              refine AH.take 9 rfl (by kernel_rfl) (by kernel_rfl) (by kernel_rfl) (fun _ _ _ _ h => h) ⟨hBm, hT⟩ (by decide) (fun w hS => R.pickT rfl rfl) ?_
              refine AH.take 10 rfl (by kernel_rfl) (by kernel_rfl) (by kernel_rfl) (fun _ _ _ _ h => h) ⟨hBm, hT⟩ (by decide) (fun w hS => R.move rfl) ?_
              refine AH.takeG 11 rfl (by kernel_rfl) (by kernel_rfl) (by kernel_rfl) (fun _ _ _ _ h => h) ⟨hBm, hT⟩ (by decide) rfl rfl rfl (fun w hS => FA33_5 rfl) ?_
              refine AH.takeG 12 rfl (by kernel_rfl) (by kernel_rfl) (by kernel_rfl) (fun _ _ _ _ h => h) ⟨hBm, hT⟩ (by decide) rfl rfl rfl (fun w hS => R.loadAgg1 (cs := [sv M.qname, .int .i64 M.qtype]) Tryd.underlying25 rfl sz25 rfl (fun j u hj => cell_at hS.1 (by match j, hj with | 0, hj => exact hj | 1, hj => exact hj))) ?_
              refine AH.takeG 13 rfl (by kernel_rfl) (by kernel_rfl) (by kernel_rfl) (fun _ _ _ _ h => h) ⟨hBm, hT⟩ (by decide) rfl rfl rfl (fun w hS => FA29_0 rfl) ?_
              refine AH.takeG 14 rfl (by kernel_rfl) (by kernel_rfl) (by kernel_rfl) (fun _ _ _ _ h => h) ⟨hBm, hT⟩ (by decide) rfl rfl rfl (fun w hS => R.loadAgg1 (cs := [sv t.qname, .int .i64 t.qtype]) Tryd.underlying25 rfl sz25 rfl (fun j u hj => cell_at hS.2 (by match j, hj with | 0, hj => exact hj | 1, hj => exact hj))) ?_
              refine AH.takeG 15 rfl (by kernel_rfl) (by kernel_rfl) (by kernel_rfl) (fun _ _ _ _ h => h) ⟨hBm, hT⟩ (by decide) rfl rfl rfl (fun w hS => R.eql25 (a := M.qname) (b := t.qname) (m := M.qtype) (n := t.qtype) rfl rfl (decide_eq_false h3)) ?_
              refine AH.take 16 rfl (by kernel_rfl) (by kernel_rfl) (by kernel_rfl) (fun _ _ _ _ h => h) ⟨hBm, hT⟩ (by decide) (fun w hS => R.pickT rfl rfl) ?_
              refine AH.eff 17 (by kernel_rfl) rfl rfl (OP.storeAgg inf33.choose_spec.1 (by rw [inf33.choose_spec.2]; rfl) rfl rfl (m_all _ _ _ _ _ _ _) hR rfl ?_)
              intro w7 hc7 hs7 hR
              have hC := (hC.trans (Chg.drew _ _)).then hc7 (fun k hk e => by omega)
              have hC2 : Chg (fun k => k = br) w4 w7 := ((hc46.trans (Chg.drew _ _)).mono (fun _ _ e => e.elim)).then hc7 (fun k hk e => e)
              have hS2 := (show _ ∧ _ from ⟨hc7.at hBm (fun e => by omega), hc7.at hT (fun e => by omega)⟩)
              refine ⟨hS2, ?_⟩
              refine AH.take 18 rfl (by kernel_rfl) (by kernel_rfl) (by kernel_rfl) (fun _ _ _ _ h => h) hS2 (by decide) (fun w hS => R.assign rfl) ?_
              refine AH.done (by kernel_rfl) ?_
              have hans : ansT t M = false := by unfold ansT; simp; intro _ _ h4; exact fun h5 => h3 ⟨h4, h5⟩
              refine EW.next ?_
              refine CW.ret ?_
              exact EW.retCT (.inl rfl) rfl rfl rfl (cs := M.cells (.slice Aa M.ans.length ca) (.slice Ab M.auth.length cb)) Tryd.underlying33 rfl sz33 (fun j u hj => cell_at hR (by rw [List.getElem?_toArray]; exact hj)) ⟨hC, by show MatchRes _ _ _ _ _ _ (some M) _ _; unfold MatchRes; simp only; rw [if_pos (by unfold passT; rw [decide_eq_true (show link = t.link by omega), decide_eq_true (show gen = t.gen by omega), decide_eq_true (show port = t.port by omega)]; simp [*])]; exact ⟨_, by rw [show ansT t M = _ from hans], _, _, rfl, hva.kept hC2 (fun k hk e => by have := hfa k hk; omega), hvb.kept hC2 (fun k hk e => by have := hfb k hk; omega), fun k hk => by have := hfa k hk; have := hc13.size; omega, fun k hk => by have := hfb k hk; have := hc13.size; omega⟩⟩
            · skip
              refine CW.draw (fun w0 => w0.heap[bm]? = some (.cells (M.cells (.slice Aa M.ans.length ca) (.slice Ab M.auth.length cb)).toArray 33 (0, 0)) ∧ w0.heap[bt]? = some (.cells t.cells.toArray 29 (0, 0))) (by kernel_rfl) ?_
              refine AH.take 0 rfl (by kernel_rfl) (by kernel_rfl) (by kernel_rfl) (fun _ _ _ _ h => h) ⟨hBm, hT⟩ (by decide) (fun w hS => R.loadAgg1 (cs := M.cells (.slice Aa M.ans.length ca) (.slice Ab M.auth.length cb)) Tryd.underlying33 rfl sz33 rfl (fun j u hj => cell_at hS.1 (by rw [Nat.zero_add, List.getElem?_toArray]; exact hj))) ?_
              refine AH.take 1 rfl (by kernel_rfl) (by kernel_rfl) (by kernel_rfl) (fun _ _ _ _ h => h) ⟨hBm, hT⟩ (by decide) (fun w hS => FA33_1 rfl) ?_
              refine AH.take 2 rfl (by kernel_rfl) (by kernel_rfl) (by kernel_rfl) (fun _ _ _ _ h => h) ⟨hBm, hT⟩ (by decide) (fun w hS => R.load (v := .bool true) Tryd.underlying4 rfl rfl (cell_at hS.1 (show _ = some (Value.bool true) from congrArg (fun b => some (Value.bool b)) h1))) ?_
              refine AH.take 3 rfl (by kernel_rfl) (by kernel_rfl) (by kernel_rfl) (fun _ _ _ _ h => h) ⟨hBm, hT⟩ (by decide) (fun w hS => R.move rfl) ?_
              refine AH.takeG 4 rfl (by kernel_rfl) (by kernel_rfl) (by kernel_rfl) (fun _ _ _ _ h => h) ⟨hBm, hT⟩ (by decide) rfl rfl rfl (fun w hS => FA33_0 rfl) ?_
              refine AH.takeG 5 rfl (by kernel_rfl) (by kernel_rfl) (by kernel_rfl) (fun _ _ _ _ h => h) ⟨hBm, hT⟩ (by decide) rfl rfl rfl (fun w hS => R.load Tryd.underlying3 rfl rfl (cell_at hS.1 rfl)) ?_
              refine AH.takeG 6 rfl (by kernel_rfl) (by kernel_rfl) (by kernel_rfl) (fun _ _ _ _ h => h) ⟨hBm, hT⟩ (by decide) rfl rfl rfl (fun w hS => FA29_4 rfl) ?_
              refine AH.takeG 7 rfl (by kernel_rfl) (by kernel_rfl) (by kernel_rfl) (fun _ _ _ _ h => h) ⟨hBm, hT⟩ (by decide) rfl rfl rfl (fun w hS => R.load Tryd.underlying3 rfl rfl (cell_at hS.2 (Tr.at20 h16))) ?_
              refine AH.takeG 8 rfl (by kernel_rfl) (by kernel_rfl) (by kernel_rfl) (fun _ _ _ _ h => h) ⟨hBm, hT⟩ (by decide) rfl rfl rfl (fun w hS => R.eql rfl rfl (decide_eq_true h2)) ?_
              refine AH.take 9 rfl (by kernel_rfl) (by kernel_rfl) (by kernel_rfl) (fun _ _ _ _ h => h) ⟨hBm, hT⟩ (by decide) (fun w hS => R.pickT rfl rfl) ?_
              refine AH.take 10 rfl (by kernel_rfl) (by kernel_rfl) (by kernel_rfl) (fun _ _ _ _ h => h) ⟨hBm, hT⟩ (by decide) (fun w hS => R.move rfl) ?_
              refine AH.takeG 11 rfl (by kernel_rfl) (by kernel_rfl) (by kernel_rfl) (fun _ _ _ _ h => h) ⟨hBm, hT⟩ (by decide) rfl rfl rfl (fun w hS => FA33_5 rfl) ?_
              refine AH.takeG 12 rfl (by kernel_rfl) (by kernel_rfl) (by kernel_rfl) (fun _ _ _ _ h => h) ⟨hBm, hT⟩ (by decide) rfl rfl rfl (fun w hS => R.loadAgg1 (cs := [sv M.qname, .int .i64 M.qtype]) Tryd.underlying25 rfl sz25 rfl (fun j u hj => cell_at hS.1 (by match j, hj with | 0, hj => exact hj | 1, hj => exact hj))) ?_
              refine AH.takeG 13 rfl (by kernel_rfl) (by kernel_rfl) (by kernel_rfl) (fun _ _ _ _ h => h) ⟨hBm, hT⟩ (by decide) rfl rfl rfl (fun w hS => FA29_0 rfl) ?_
              refine AH.takeG 14 rfl (by kernel_rfl) (by kernel_rfl) (by kernel_rfl) (fun _ _ _ _ h => h) ⟨hBm, hT⟩ (by decide) rfl rfl rfl (fun w hS => R.loadAgg1 (cs := [sv t.qname, .int .i64 t.qtype]) Tryd.underlying25 rfl sz25 rfl (fun j u hj => cell_at hS.2 (by match j, hj with | 0, hj => exact hj | 1, hj => exact hj))) ?_
              refine AH.takeG 15 rfl (by kernel_rfl) (by kernel_rfl) (by kernel_rfl) (fun _ _ _ _ h => h) ⟨hBm, hT⟩ (by decide) rfl rfl rfl (fun w hS => R.eql25 (a := M.qname) (b := t.qname) (m := M.qtype) (n := t.qtype) rfl rfl (decide_eq_true h3)) ?_
              refine AH.take 16 rfl (by kernel_rfl) (by kernel_rfl) (by kernel_rfl) (fun _ _ _ _ h => h) ⟨hBm, hT⟩ (by decide) (fun w hS => R.pickT rfl rfl) ?_
              refine AH.eff 17 (by kernel_rfl) rfl rfl (OP.storeAgg inf33.choose_spec.1 (by rw [inf33.choose_spec.2]; rfl) rfl rfl (m_all _ _ _ _ _ _ _) hR rfl ?_)
              intro w7 hc7 hs7 hR
              have hC := (hC.trans (Chg.drew _ _)).then hc7 (fun k hk e => by omega)
              have hC2 : Chg (fun k => k = br) w4 w7 := ((hc46.trans (Chg.drew _ _)).mono (fun _ _ e => e.elim)).then hc7 (fun k hk e => e)
              have hS2 := (show _ ∧ _ from ⟨hc7.at hBm (fun e => by omega), hc7.at hT (fun e => by omega)⟩)
              refine ⟨hS2, ?_⟩
              refine AH.take 18 rfl (by kernel_rfl) (by kernel_rfl) (by kernel_rfl) (fun _ _ _ _ h => h) hS2 (by decide) (fun w hS => R.assign rfl) ?_
              refine AH.done (by kernel_rfl) ?_
              have hans : ansT t M = true := by unfold ansT; simp [h1, h2, h3.1, h3.2]
              refine EW.next ?_
              refine CW.ret ?_
              exact EW.retCT (.inl rfl) rfl rfl rfl (cs := M.cells (.slice Aa M.ans.length ca) (.slice Ab M.auth.length cb)) Tryd.underlying33 rfl sz33 (fun j u hj => cell_at hR (by rw [List.getElem?_toArray]; exact hj)) ⟨hC, by show MatchRes _ _ _ _ _ _ (some M) _ _; unfold MatchRes; simp only; rw [if_pos (by unfold passT; rw [decide_eq_true (show link = t.link by omega), decide_eq_true (show gen = t.gen by omega), decide_eq_true (show port = t.port by omega)]; simp [*])]; exact ⟨_, by rw [show ansT t M = _ from hans], _, _, rfl, hva.kept hC2 (fun k hk e => by have := hfa k hk; omega), hvb.kept hC2 (fun k hk e => by have := hfb k hk; omega), fun k hk => by have := hfa k hk; have := hc13.size; omega, fun k hk => by have := hfb k hk; have := hc13.size; omega⟩⟩
end Go.Proofs.YthcpjcgjmdfpjaaDoor

namespace Go.Proofs.YthcpjcgjmdfpjaaDoor
open Go Go.RowKit
set_option maxRecDepth 100000
set_option maxHeartbeats 4000000

/-- Are they the same? -/
noncomputable def sameM (a b : Msg) : Bool := @decide (a = b) (Classical.propDecidable _)
theorem sameM_no {a b : Msg} (h : ¬ a = b) : sameM a b = false := by unfold sameM; simp [h]
theorem sameM_self (a : Msg) : sameM a a = true := by unfold sameM; simp
theorem sameM_eq {a b : Msg} (h : sameM a b = true) : a = b := by unfold sameM at h; simpa using h
theorem sameM_yes {a b : Msg} (h1 : a.id = b.id) (h2 : a.reply = b.reply) (h3 : a.trunc = b.trunc) (h4 : a.recur = b.recur) (h5 : a.code = b.code) (h6 : a.qname = b.qname ∧ a.qtype = b.qtype) (h7 : a.ans = b.ans) (h8 : a.auth = b.auth) : sameM a b = true := by
  have : a = b := by
    cases a; cases b
    simp only at h1 h2 h3 h4 h5 h6 h7 h8
    obtain ⟨h6, h9⟩ := h6
    subst h1 h2 h3 h4 h5 h6 h7 h8 h9
    rfl
  rw [this]; exact sameM_self b
theorem R.neqBD {l : Env} {w : World} {x y : Operand} {ty : TypeId} {a b : Bool} (hx : ev l x = some (.bool a)) (hy : ev l y = some (.bool b)) : Runs Tryd.prog l (.binOp .neq 4 x y ty) w (.bool (decide (¬ a = b))) w :=
  R.neqB hx hy (by cases a <;> cases b <;> rfl)
theorem R.neq25D {l : Env} {w : World} {x y : Operand} {ty : TypeId} {a b : List UInt8} {m n : Int} (hx : ev l x = some (.agg #[sv a, .int .i64 m])) (hy : ev l y = some (.agg #[sv b, .int .i64 n])) : Runs Tryd.prog l (.binOp .neq 25 x y ty) w (.bool (decide (¬ (a = b ∧ m = n)))) w :=
  R.neq25 hx hy (by by_cases h : a = b ∧ m = n <;> simp [h])
theorem take_next {α : Type} {p q : List α} {j : Nat} {x y : α} (h : p.take j = q.take j) (hx : p[j]? = some x) (hy : q[j]? = some y) (e : x = y) : p.take (j + 1) = q.take (j + 1) := by
  rw [List.take_add_one, List.take_add_one, h, hx, hy, e]
theorem same_any (a b : Msg) (va vb : Value) (w0 : World) (ha : MV w0 va a) (hb : MV w0 vb b) (hn1 : a.ans.length ≤ 1099511627776) (hn2 : a.auth.length ≤ 1099511627776) :
    Calls Tryd.prog 25 #[va, vb] w0 fun e w' => e = .returned (.bool (sameM a b)) ∧ Chg (fun _ => False) w0 w' := by
  obtain ⟨ua, ub, rfl, hAa, hBa⟩ := ha
  obtain ⟨uc, ud, rfl, hAb, hBb⟩ := hb
  obtain ⟨Aa, ca, rfl, _⟩ := hAa.form
  obtain ⟨Ba, da, rfl, _⟩ := hBa.form
  obtain ⟨Ab, cb, rfl, _⟩ := hAb.form
  obtain ⟨Bb, db, rfl, _⟩ := hBb.form
  refine calls_cw (args := [.agg (a.cells (.slice Aa a.ans.length ca) (.slice Ba a.auth.length da)).toArray, .agg (b.cells (.slice Ab b.ans.length cb) (.slice Bb b.auth.length db)).toArray]) Tryd.func25 rfl rfl ?_
  show CW _ _ _ 101 [(0, .agg (a.cells (.slice Aa a.ans.length ca) (.slice Ba a.auth.length da)).toArray), (1, .agg (b.cells (.slice Ab b.ans.length cb) (.slice Bb b.auth.length db)).toArray)] w0
  refine CW.rseq ?_
  refine WL.eff rfl (OP.box (by decide) rfl ?_)
  intro w1 hc1 hs1 hA0
  obtain ⟨ba, he_ba⟩ : ∃ q, q = w0.heap.size := ⟨_, rfl⟩
  rw [← he_ba] at hA0 ⊢
  have hA := hA0
  refine WL.eff rfl (OP.box (by decide) rfl ?_)
  intro w2 hc2 hs2 hB0
  obtain ⟨bb, he_bb⟩ : ∃ q, q = w1.heap.size := ⟨_, rfl⟩
  rw [← he_bb] at hB0 ⊢
  have hB := hB0
  have hA := hc2.at hA (fun e => e)
  have hC := hc1.trans hc2
  have hAa := hAa.kept hC (fun _ _ e => e)
  have hBa := hBa.kept hC (fun _ _ e => e)
  have hAb := hAb.kept hC (fun _ _ e => e)
  have hBb := hBb.kept hC (fun _ _ e => e)
  refine WL.op (by decide) (R.assign rfl) ?_
  refine WL.next ?_
  refine CW.seq ?_
  refine CW.rseq ?_
  refine WL.op (by decide) (FA33_0 rfl) ?_
  refine WL.op (by decide) (R.load Tryd.underlying3 rfl rfl (cell_at hA rfl)) ?_
  refine WL.op (by decide) (FA33_0 rfl) ?_
  refine WL.op (by decide) (R.load Tryd.underlying3 rfl rfl (cell_at hB rfl)) ?_
  refine WL.neqS (by decide) rfl rfl (fun h1 => ?_) (fun h1 => ?_)
  · skip
    refine WL.op (by decide) (R.move rfl) ?_
    refine WL.pass (by decide) rfl rfl rfl ?_
    refine WL.pass (by decide) rfl rfl rfl ?_
    refine WL.pass (by decide) rfl rfl rfl ?_
    refine WL.pass (by decide) rfl rfl rfl ?_
    refine WL.pass (by decide) rfl rfl rfl ?_
    refine WL.op (by decide) (R.pickT rfl rfl) ?_
    refine WL.op (by decide) (R.move rfl) ?_
    refine WL.pass (by decide) rfl rfl rfl ?_
    refine WL.pass (by decide) rfl rfl rfl ?_
    refine WL.pass (by decide) rfl rfl rfl ?_
    refine WL.pass (by decide) rfl rfl rfl ?_
    refine WL.pass (by decide) rfl rfl rfl ?_
    refine WL.op (by decide) (R.pickT rfl rfl) ?_
    refine WL.op (by decide) (R.move rfl) ?_
    refine WL.pass (by decide) rfl rfl rfl ?_
    refine WL.pass (by decide) rfl rfl rfl ?_
    refine WL.pass (by decide) rfl rfl rfl ?_
    refine WL.pass (by decide) rfl rfl rfl ?_
    refine WL.pass (by decide) rfl rfl rfl ?_
    refine WL.op (by decide) (R.pickT rfl rfl) ?_
    refine WL.op (by decide) (R.move rfl) ?_
    refine WL.pass (by decide) rfl rfl rfl ?_
    refine WL.pass (by decide) rfl rfl rfl ?_
    refine WL.pass (by decide) rfl rfl rfl ?_
    refine WL.pass (by decide) rfl rfl rfl ?_
    refine WL.pass (by decide) rfl rfl rfl ?_
    refine WL.op (by decide) (R.pickT rfl rfl) ?_
    refine WL.op (by decide) (R.move rfl) ?_
    refine WL.pass (by decide) rfl rfl rfl ?_
    refine WL.pass (by decide) rfl rfl rfl ?_
    refine WL.pass (by decide) rfl rfl rfl ?_
    refine WL.pass (by decide) rfl rfl rfl ?_
    refine WL.pass (by decide) rfl rfl rfl ?_
    refine WL.op (by decide) (R.pickT rfl rfl) ?_
    refine WL.op (by decide) (R.move rfl) ?_
    refine WL.pass (by decide) rfl rfl rfl ?_
    refine WL.pass (by decide) rfl rfl rfl ?_
    refine WL.pass (by decide) rfl rfl rfl ?_
    refine WL.pass (by decide) rfl rfl rfl ?_
    refine WL.pass (by decide) rfl rfl rfl ?_
    refine WL.pass (by decide) rfl rfl rfl ?_
    refine WL.pass (by decide) rfl rfl rfl ?_
    refine WL.op (by decide) (R.pickT rfl rfl) ?_
    refine WL.op (by decide) (R.move rfl) ?_
    refine WL.pass (by decide) rfl rfl rfl ?_
    refine WL.pass (by decide) rfl rfl rfl ?_
    refine WL.pass (by decide) rfl rfl rfl ?_
    refine WL.pass (by decide) rfl rfl rfl ?_
    refine WL.pass (by decide) rfl rfl rfl ?_
    refine WL.pass (by decide) rfl rfl rfl ?_
    refine WL.pass (by decide) rfl rfl rfl ?_
    refine WL.op (by decide) (R.pickT rfl rfl) ?_
    refine WL.next ?_
    refine CW.condT rfl ?_
    refine CW.rseq ?_
    refine WL.op (by decide) (R.assign rfl) ?_
    refine WL.next ?_
    refine CW.ret ?_
    refine EW.thenRet ?_
    refine EW.ret1 (.inl rfl) rfl rfl ⟨congrArg (fun b => Ending.returned (.bool b)) (sameM_no (fun e => ?_)).symm, hC⟩
    subst e
    simp_all
  · skip
    refine WL.op (by decide) (R.move rfl) ?_
    refine WL.gop (by decide) rfl rfl rfl (FA33_1 rfl) ?_
    refine WL.gop (by decide) rfl rfl rfl (R.load Tryd.underlying4 rfl rfl (cell_at hA rfl)) ?_
    refine WL.gop (by decide) rfl rfl rfl (FA33_1 rfl) ?_
    refine WL.gop (by decide) rfl rfl rfl (R.load Tryd.underlying4 rfl rfl (cell_at hB rfl)) ?_
    refine WL.gsplit _ (by decide) rfl rfl rfl (R.neqBD (a := a.reply) (b := b.reply) rfl rfl) (fun h2 => ?_) (fun h2 => ?_)
    · skip
      refine WL.op (by decide) (R.pickF rfl rfl) ?_
      refine WL.op (by decide) (R.move rfl) ?_
      refine WL.pass (by decide) rfl rfl rfl ?_
      refine WL.pass (by decide) rfl rfl rfl ?_
      refine WL.pass (by decide) rfl rfl rfl ?_
      refine WL.pass (by decide) rfl rfl rfl ?_
      refine WL.pass (by decide) rfl rfl rfl ?_
      refine WL.op (by decide) (R.pickT rfl rfl) ?_
      refine WL.op (by decide) (R.move rfl) ?_
      refine WL.pass (by decide) rfl rfl rfl ?_
      refine WL.pass (by decide) rfl rfl rfl ?_
      refine WL.pass (by decide) rfl rfl rfl ?_
      refine WL.pass (by decide) rfl rfl rfl ?_
      refine WL.pass (by decide) rfl rfl rfl ?_
      refine WL.op (by decide) (R.pickT rfl rfl) ?_
      refine WL.op (by decide) (R.move rfl) ?_
      refine WL.pass (by decide) rfl rfl rfl ?_
      refine WL.pass (by decide) rfl rfl rfl ?_
      refine WL.pass (by decide) rfl rfl rfl ?_
      refine WL.pass (by decide) rfl rfl rfl ?_
      refine WL.pass (by decide) rfl rfl rfl ?_
      refine WL.op (by decide) (R.pickT rfl rfl) ?_
      refine WL.op (by decide) (R.move rfl) ?_
      refine WL.pass (by decide) rfl rfl rfl ?_
      refine WL.pass (by decide) rfl rfl rfl ?_
      refine WL.pass (by decide) rfl rfl rfl ?_
      refine WL.pass (by decide) rfl rfl rfl ?_
      refine WL.pass (by decide) rfl rfl rfl ?_
      refine WL.op (by decide) (R.pickT rfl rfl) ?_
      refine WL.op (by decide) (R.move rfl) ?_
      refine WL.pass (by decide) rfl rfl rfl ?_
      refine WL.pass (by decide) rfl rfl rfl ?_
      refine WL.pass (by decide) rfl rfl rfl ?_
      refine WL.pass (by decide) rfl rfl rfl ?_
      refine WL.pass (by decide) rfl rfl rfl ?_
      refine WL.pass (by decide) rfl rfl rfl ?_
      refine WL.pass (by decide) rfl rfl rfl ?_
      refine WL.op (by decide) (R.pickT rfl rfl) ?_
      refine WL.op (by decide) (R.move rfl) ?_
      refine WL.pass (by decide) rfl rfl rfl ?_
      refine WL.pass (by decide) rfl rfl rfl ?_
      refine WL.pass (by decide) rfl rfl rfl ?_
      refine WL.pass (by decide) rfl rfl rfl ?_
      refine WL.pass (by decide) rfl rfl rfl ?_
      refine WL.pass (by decide) rfl rfl rfl ?_
      refine WL.pass (by decide) rfl rfl rfl ?_
      refine WL.op (by decide) (R.pickT rfl rfl) ?_
      refine WL.next ?_
      refine CW.condT rfl ?_
      refine CW.rseq ?_
      refine WL.op (by decide) (R.assign rfl) ?_
      refine WL.next ?_
      refine CW.ret ?_
      refine EW.thenRet ?_
      refine EW.ret1 (.inl rfl) rfl rfl ⟨congrArg (fun b => Ending.returned (.bool b)) (sameM_no (fun e => ?_)).symm, hC⟩
      subst e
      simp_all
    · skip
      refine WL.op (by decide) (R.pickF rfl rfl) ?_
      refine WL.op (by decide) (R.move rfl) ?_
      refine WL.gop (by decide) rfl rfl rfl (FA33_2 rfl) ?_
      refine WL.gop (by decide) rfl rfl rfl (R.load Tryd.underlying4 rfl rfl (cell_at hA rfl)) ?_
      refine WL.gop (by decide) rfl rfl rfl (FA33_2 rfl) ?_
      refine WL.gop (by decide) rfl rfl rfl (R.load Tryd.underlying4 rfl rfl (cell_at hB rfl)) ?_
      refine WL.gsplit _ (by decide) rfl rfl rfl (R.neqBD (a := a.trunc) (b := b.trunc) rfl rfl) (fun h3 => ?_) (fun h3 => ?_)
      · skip
        refine WL.op (by decide) (R.pickF rfl rfl) ?_
        refine WL.op (by decide) (R.move rfl) ?_
        refine WL.pass (by decide) rfl rfl rfl ?_
        refine WL.pass (by decide) rfl rfl rfl ?_
        refine WL.pass (by decide) rfl rfl rfl ?_
        refine WL.pass (by decide) rfl rfl rfl ?_
        refine WL.pass (by decide) rfl rfl rfl ?_
        refine WL.op (by decide) (R.pickT rfl rfl) ?_
        refine WL.op (by decide) (R.move rfl) ?_
        refine WL.pass (by decide) rfl rfl rfl ?_
        refine WL.pass (by decide) rfl rfl rfl ?_
        refine WL.pass (by decide) rfl rfl rfl ?_
        refine WL.pass (by decide) rfl rfl rfl ?_
        refine WL.pass (by decide) rfl rfl rfl ?_
        refine WL.op (by decide) (R.pickT rfl rfl) ?_
        refine WL.op (by decide) (R.move rfl) ?_
        refine WL.pass (by decide) rfl rfl rfl ?_
        refine WL.pass (by decide) rfl rfl rfl ?_
        refine WL.pass (by decide) rfl rfl rfl ?_
        refine WL.pass (by decide) rfl rfl rfl ?_
        refine WL.pass (by decide) rfl rfl rfl ?_
        refine WL.op (by decide) (R.pickT rfl rfl) ?_
        refine WL.op (by decide) (R.move rfl) ?_
        refine WL.pass (by decide) rfl rfl rfl ?_
        refine WL.pass (by decide) rfl rfl rfl ?_
        refine WL.pass (by decide) rfl rfl rfl ?_
        refine WL.pass (by decide) rfl rfl rfl ?_
        refine WL.pass (by decide) rfl rfl rfl ?_
        refine WL.pass (by decide) rfl rfl rfl ?_
        refine WL.pass (by decide) rfl rfl rfl ?_
        refine WL.op (by decide) (R.pickT rfl rfl) ?_
        refine WL.op (by decide) (R.move rfl) ?_
        refine WL.pass (by decide) rfl rfl rfl ?_
        refine WL.pass (by decide) rfl rfl rfl ?_
        refine WL.pass (by decide) rfl rfl rfl ?_
        refine WL.pass (by decide) rfl rfl rfl ?_
        refine WL.pass (by decide) rfl rfl rfl ?_
        refine WL.pass (by decide) rfl rfl rfl ?_
        refine WL.pass (by decide) rfl rfl rfl ?_
        refine WL.op (by decide) (R.pickT rfl rfl) ?_
        refine WL.next ?_
        refine CW.condT rfl ?_
        refine CW.rseq ?_
        refine WL.op (by decide) (R.assign rfl) ?_
        refine WL.next ?_
        refine CW.ret ?_
        refine EW.thenRet ?_
        refine EW.ret1 (.inl rfl) rfl rfl ⟨congrArg (fun b => Ending.returned (.bool b)) (sameM_no (fun e => ?_)).symm, hC⟩
        subst e
        simp_all
      · skip
        refine WL.op (by decide) (R.pickF rfl rfl) ?_
        refine WL.op (by decide) (R.move rfl) ?_
        refine WL.gop (by decide) rfl rfl rfl (FA33_3 rfl) ?_
        refine WL.gop (by decide) rfl rfl rfl (R.load Tryd.underlying4 rfl rfl (cell_at hA rfl)) ?_
        refine WL.gop (by decide) rfl rfl rfl (FA33_3 rfl) ?_
        refine WL.gop (by decide) rfl rfl rfl (R.load Tryd.underlying4 rfl rfl (cell_at hB rfl)) ?_
        refine WL.gsplit _ (by decide) rfl rfl rfl (R.neqBD (a := a.recur) (b := b.recur) rfl rfl) (fun h4 => ?_) (fun h4 => ?_)
        · skip
          refine WL.op (by decide) (R.pickF rfl rfl) ?_
          refine WL.op (by decide) (R.move rfl) ?_
          refine WL.pass (by decide) rfl rfl rfl ?_
          refine WL.pass (by decide) rfl rfl rfl ?_
          refine WL.pass (by decide) rfl rfl rfl ?_
          refine WL.pass (by decide) rfl rfl rfl ?_
          refine WL.pass (by decide) rfl rfl rfl ?_
          refine WL.op (by decide) (R.pickT rfl rfl) ?_
          refine WL.op (by decide) (R.move rfl) ?_
          refine WL.pass (by decide) rfl rfl rfl ?_
          refine WL.pass (by decide) rfl rfl rfl ?_
          refine WL.pass (by decide) rfl rfl rfl ?_
          refine WL.pass (by decide) rfl rfl rfl ?_
          refine WL.pass (by decide) rfl rfl rfl ?_
          refine WL.op (by decide) (R.pickT rfl rfl) ?_
          refine WL.op (by decide) (R.move rfl) ?_
          refine WL.pass (by decide) rfl rfl rfl ?_
          refine WL.pass (by decide) rfl rfl rfl ?_
          refine WL.pass (by decide) rfl rfl rfl ?_
          refine WL.pass (by decide) rfl rfl rfl ?_
          refine WL.pass (by decide) rfl rfl rfl ?_
          refine WL.pass (by decide) rfl rfl rfl ?_
          refine WL.pass (by decide) rfl rfl rfl ?_
          refine WL.op (by decide) (R.pickT rfl rfl) ?_
          refine WL.op (by decide) (R.move rfl) ?_
          refine WL.pass (by decide) rfl rfl rfl ?_
          refine WL.pass (by decide) rfl rfl rfl ?_
          refine WL.pass (by decide) rfl rfl rfl ?_
          refine WL.pass (by decide) rfl rfl rfl ?_
          refine WL.pass (by decide) rfl rfl rfl ?_
          refine WL.pass (by decide) rfl rfl rfl ?_
          refine WL.pass (by decide) rfl rfl rfl ?_
          refine WL.op (by decide) (R.pickT rfl rfl) ?_
          refine WL.next ?_
          refine CW.condT rfl ?_
          refine CW.rseq ?_
          refine WL.op (by decide) (R.assign rfl) ?_
          refine WL.next ?_
          refine CW.ret ?_
          refine EW.thenRet ?_
          refine EW.ret1 (.inl rfl) rfl rfl ⟨congrArg (fun b => Ending.returned (.bool b)) (sameM_no (fun e => ?_)).symm, hC⟩
          subst e
          simp_all
        · skip
          refine WL.op (by decide) (R.pickF rfl rfl) ?_
          refine WL.op (by decide) (R.move rfl) ?_
          refine WL.gop (by decide) rfl rfl rfl (FA33_4 rfl) ?_
          refine WL.gop (by decide) rfl rfl rfl (R.load Tryd.underlying3 rfl rfl (cell_at hA rfl)) ?_
          refine WL.gop (by decide) rfl rfl rfl (FA33_4 rfl) ?_
          refine WL.gop (by decide) rfl rfl rfl (R.load Tryd.underlying3 rfl rfl (cell_at hB rfl)) ?_
          refine WL.gsplit _ (by decide) rfl rfl rfl (R.neqD rfl rfl) (fun h5 => ?_) (fun h5 => ?_)
          · skip
            refine WL.op (by decide) (R.pickF rfl rfl) ?_
            refine WL.op (by decide) (R.move rfl) ?_
            refine WL.pass (by decide) rfl rfl rfl ?_
            refine WL.pass (by decide) rfl rfl rfl ?_
            refine WL.pass (by decide) rfl rfl rfl ?_
            refine WL.pass (by decide) rfl rfl rfl ?_
            refine WL.pass (by decide) rfl rfl rfl ?_
            refine WL.op (by decide) (R.pickT rfl rfl) ?_
            refine WL.op (by decide) (R.move rfl) ?_
            refine WL.pass (by decide) rfl rfl rfl ?_
            refine WL.pass (by decide) rfl rfl rfl ?_
            refine WL.pass (by decide) rfl rfl rfl ?_
            refine WL.pass (by decide) rfl rfl rfl ?_
            refine WL.pass (by decide) rfl rfl rfl ?_
            refine WL.pass (by decide) rfl rfl rfl ?_
            refine WL.pass (by decide) rfl rfl rfl ?_
            refine WL.op (by decide) (R.pickT rfl rfl) ?_
            refine WL.op (by decide) (R.move rfl) ?_
            refine WL.pass (by decide) rfl rfl rfl ?_
            refine WL.pass (by decide) rfl rfl rfl ?_
            refine WL.pass (by decide) rfl rfl rfl ?_
            refine WL.pass (by decide) rfl rfl rfl ?_
            refine WL.pass (by decide) rfl rfl rfl ?_
            refine WL.pass (by decide) rfl rfl rfl ?_
            refine WL.pass (by decide) rfl rfl rfl ?_
            refine WL.op (by decide) (R.pickT rfl rfl) ?_
            refine WL.next ?_
            refine CW.condT rfl ?_
            refine CW.rseq ?_
            refine WL.op (by decide) (R.assign rfl) ?_
            refine WL.next ?_
            refine CW.ret ?_
            refine EW.thenRet ?_
            refine EW.ret1 (.inl rfl) rfl rfl ⟨congrArg (fun b => Ending.returned (.bool b)) (sameM_no (fun e => ?_)).symm, hC⟩
            subst e
            simp_all
          · skip
            refine WL.op (by decide) (R.pickF rfl rfl) ?_
            refine WL.op (by decide) (R.move rfl) ?_
            refine WL.gop (by decide) rfl rfl rfl (FA33_5 rfl) ?_
            refine WL.gop (by decide) rfl rfl rfl (R.loadAgg1 (cs := [sv a.qname, .int .i64 a.qtype]) Tryd.underlying25 rfl sz25 rfl (fun j u hj => cell_at hA (by match j, hj with | 0, hj => exact hj | 1, hj => exact hj))) ?_
            refine WL.gop (by decide) rfl rfl rfl (FA33_5 rfl) ?_
            refine WL.gop (by decide) rfl rfl rfl (R.loadAgg1 (cs := [sv b.qname, .int .i64 b.qtype]) Tryd.underlying25 rfl sz25 rfl (fun j u hj => cell_at hB (by match j, hj with | 0, hj => exact hj | 1, hj => exact hj))) ?_
            refine WL.gsplit _ (by decide) rfl rfl rfl (R.neq25D (a := a.qname) (b := b.qname) (m := a.qtype) (n := b.qtype) rfl rfl) (fun h6 => ?_) (fun h6 => ?_)
            · skip
              refine WL.op (by decide) (R.pickF rfl rfl) ?_
              refine WL.op (by decide) (R.move rfl) ?_
              refine WL.pass (by decide) rfl rfl rfl ?_
              refine WL.pass (by decide) rfl rfl rfl ?_
              refine WL.pass (by decide) rfl rfl rfl ?_
              refine WL.pass (by decide) rfl rfl rfl ?_
              refine WL.pass (by decide) rfl rfl rfl ?_
              refine WL.pass (by decide) rfl rfl rfl ?_
              refine WL.pass (by decide) rfl rfl rfl ?_
              refine WL.op (by decide) (R.pickT rfl rfl) ?_
              refine WL.op (by decide) (R.move rfl) ?_
              refine WL.pass (by decide) rfl rfl rfl ?_
              refine WL.pass (by decide) rfl rfl rfl ?_
              refine WL.pass (by decide) rfl rfl rfl ?_
              refine WL.pass (by decide) rfl rfl rfl ?_
              refine WL.pass (by decide) rfl rfl rfl ?_
              refine WL.pass (by decide) rfl rfl rfl ?_
              refine WL.pass (by decide) rfl rfl rfl ?_
              refine WL.op (by decide) (R.pickT rfl rfl) ?_
              refine WL.next ?_
              refine CW.condT rfl ?_
              refine CW.rseq ?_
              refine WL.op (by decide) (R.assign rfl) ?_
              refine WL.next ?_
              refine CW.ret ?_
              refine EW.thenRet ?_
              refine EW.ret1 (.inl rfl) rfl rfl ⟨congrArg (fun b => Ending.returned (.bool b)) (sameM_no (fun e => ?_)).symm, hC⟩
              subst e
              simp_all
            · skip
              refine WL.op (by decide) (R.pickF rfl rfl) ?_
              refine WL.op (by decide) (R.move rfl) ?_
              refine WL.gop (by decide) rfl rfl rfl (FA33_6 rfl) ?_
              refine WL.gop (by decide) rfl rfl rfl (R.load Tryd.underlying31 rfl rfl (cell_at hA rfl)) ?_
              refine WL.gop (by decide) rfl rfl rfl (R.lenSlice rfl Tryd.underlying31 rfl) ?_
              refine WL.gop (by decide) rfl rfl rfl (FA33_6 rfl) ?_
              refine WL.gop (by decide) rfl rfl rfl (R.load Tryd.underlying31 rfl rfl (cell_at hB rfl)) ?_
              refine WL.gop (by decide) rfl rfl rfl (R.lenSlice rfl Tryd.underlying31 rfl) ?_
              refine WL.gsplit _ (by decide) rfl rfl rfl (R.neqD rfl rfl) (fun h7 => ?_) (fun h7 => ?_)
              · skip
                refine WL.op (by decide) (R.pickF rfl rfl) ?_
                refine WL.op (by decide) (R.move rfl) ?_
                refine WL.pass (by decide) rfl rfl rfl ?_
                refine WL.pass (by decide) rfl rfl rfl ?_
                refine WL.pass (by decide) rfl rfl rfl ?_
                refine WL.pass (by decide) rfl rfl rfl ?_
                refine WL.pass (by decide) rfl rfl rfl ?_
                refine WL.pass (by decide) rfl rfl rfl ?_
                refine WL.pass (by decide) rfl rfl rfl ?_
                refine WL.op (by decide) (R.pickT rfl rfl) ?_
                refine WL.next ?_
                refine CW.condT rfl ?_
                refine CW.rseq ?_
                refine WL.op (by decide) (R.assign rfl) ?_
                refine WL.next ?_
                refine CW.ret ?_
                refine EW.thenRet ?_
                refine EW.ret1 (.inl rfl) rfl rfl ⟨congrArg (fun b => Ending.returned (.bool b)) (sameM_no (fun e => ?_)).symm, hC⟩
                subst e
                simp_all
              · skip
                refine WL.op (by decide) (R.pickF rfl rfl) ?_
                refine WL.op (by decide) (R.move rfl) ?_
                refine WL.gop (by decide) rfl rfl rfl (FA33_7 rfl) ?_
                refine WL.gop (by decide) rfl rfl rfl (R.load Tryd.underlying31 rfl rfl (cell_at hA rfl)) ?_
                refine WL.gop (by decide) rfl rfl rfl (R.lenSlice rfl Tryd.underlying31 rfl) ?_
                refine WL.gop (by decide) rfl rfl rfl (FA33_7 rfl) ?_
                refine WL.gop (by decide) rfl rfl rfl (R.load Tryd.underlying31 rfl rfl (cell_at hB rfl)) ?_
                refine WL.gop (by decide) rfl rfl rfl (R.lenSlice rfl Tryd.underlying31 rfl) ?_
                refine WL.gsplit _ (by decide) rfl rfl rfl (R.neqD rfl rfl) (fun h8 => ?_) (fun h8 => ?_)
                · skip
                  refine WL.op (by decide) (R.pickF rfl rfl) ?_
                  refine WL.next ?_
                  refine CW.condT rfl ?_
                  refine CW.rseq ?_
                  refine WL.op (by decide) (R.assign rfl) ?_
                  refine WL.next ?_
                  refine CW.ret ?_
                  refine EW.thenRet ?_
                  refine EW.ret1 (.inl rfl) rfl rfl ⟨congrArg (fun b => Ending.returned (.bool b)) (sameM_no (fun e => ?_)).symm, hC⟩
                  subst e
                  simp_all
                · skip
                  refine WL.op (by decide) (R.pickF rfl rfl) ?_
                  refine WL.next ?_
                  refine CW.condF rfl ?_
                  refine CW.skip ?_
                  refine EW.next ?_
                  refine CW.seq ?_
                  refine CW.rseq ?_
                  refine WL.op (by decide) (FA33_6 rfl) ?_
                  refine WL.op (by decide) (R.load Tryd.underlying31 rfl rfl (cell_at hA rfl)) ?_
                  refine WL.op (by decide) (R.lenSlice rfl Tryd.underlying31 rfl) ?_
                  refine WL.op (by decide) (R.move rfl) ?_
                  refine WL.next ?_
                  refine CW.block ?_
                  refine CW.loopK [2, 3, 67, 68] (fun k l wr => Chg (fun _ => False) w0 wr ∧ wr.heap[ba]? = some (.cells (a.cells (.slice Aa a.ans.length ca) (.slice Ba a.auth.length da)).toArray 33 (0, 0)) ∧ wr.heap[bb]? = some (.cells (b.cells (.slice Ab b.ans.length cb) (.slice Bb b.auth.length db)).toArray 33 (0, 0)) ∧ RSl wr (.slice Aa a.ans.length ca) a.ans ∧ RSl wr (.slice Ba a.auth.length da) a.auth ∧ RSl wr (.slice Ab b.ans.length cb) b.ans ∧ RSl wr (.slice Bb b.auth.length db) b.auth ∧ ∃ (j : Nat) (jj : Int), j + k = a.ans.length ∧ jj = (j : Int) ∧ l = [(2, .pointer (some ⟨ba, 0, none⟩)), (3, .pointer (some ⟨bb, 0, none⟩)), (67, .int .i64 a.ans.length), (68, .int .i64 jj)] ∧ a.ans.take j = b.ans.take j) (a.ans.length) ?_ ?_
                  · exact ⟨hC, hA, hB, hAa, hBa, hAb, hBb, 0, 0, by omega, rfl, rfl, rfl⟩
                  · rintro k l wr ⟨hC, hA, hB, hAa, hBa, hAb, hBb, j, jj, hk, rfl, rfl, htk⟩
                    refine CW.rseq ?_
                    refine WL.lssS (by decide) rfl rfl (fun h9 => ?_) (fun h9 => ?_)
                    · skip
                      refine WL.next ?_
                      refine CW.seq ?_
                      refine CW.condT rfl ?_
                      refine CW.skip ?_
                      refine EW.next ?_
                      refine CW.seq ?_
                      refine CW.block ?_
                      refine CW.rseq ?_
                      refine WL.op (by decide) (R.move rfl) ?_
                      refine WL.op (by decide) (R.assign rfl) ?_
                      refine WL.next ?_
                      refine CW.seq ?_
                      obtain ⟨x, hx⟩ : ∃ x, a.ans[j]? = some x := ⟨a.ans[j]'(by omega), List.getElem?_eq_getElem _⟩
                      obtain ⟨y, hy⟩ : ∃ y, b.ans[j]? = some y := ⟨b.ans[j]'(by omega), List.getElem?_eq_getElem _⟩
                      obtain ⟨hx16, _, gx, ox, hgx, hcx⟩ := hAa.at hx
                      obtain ⟨hy16, _, gy, oy, hgy, hcy⟩ := hAb.at hy
                      refine CW.draw (fun w => w.heap[ba]? = some (.cells (a.cells (.slice Aa a.ans.length ca) (.slice Ba a.auth.length da)).toArray 33 (0, 0)) ∧ w.heap[bb]? = some (.cells (b.cells (.slice Ab b.ans.length cb) (.slice Bb b.auth.length db)).toArray 33 (0, 0)) ∧ (∀ i u, x.cells[i]? = some u → w.cell? ⟨gx, ox + j * 21 + i, none⟩ = some u) ∧ (∀ i u, y.cells[i]? = some u → w.cell? ⟨gy, oy + j * 21 + i, none⟩ = some u)) (by kernel_rfl) ?_
                      have hC := hC.trans (Chg.drew (fun _ => False) _)
                      have hA := (Chg.drew (fun _ => False) _).at hA (fun e => e)
                      have hB := (Chg.drew (fun _ => False) _).at hB (fun e => e)
                      have hAa := hAa.kept (Chg.drew (fun _ => False) _) (fun _ _ e => e)
                      have hBa := hBa.kept (Chg.drew (fun _ => False) _) (fun _ _ e => e)
                      have hAb := hAb.kept (Chg.drew (fun _ => False) _) (fun _ _ e => e)
                      have hBb := hBb.kept (Chg.drew (fun _ => False) _) (fun _ _ e => e)
                      refine AH.take 0 rfl (by kernel_rfl) (by kernel_rfl) (by kernel_rfl) (fun _ _ _ _ h => h) ⟨hA, hB, hcx, hcy⟩ (by decide) (fun w hS => FA33_6 rfl) ?_
                      refine AH.take 1 rfl (by kernel_rfl) (by kernel_rfl) (by kernel_rfl) (fun _ _ _ _ h => h) ⟨hA, hB, hcx, hcy⟩ (by decide) (fun w hS => R.load (v := .slice (some ⟨gx, ox, none⟩) a.ans.length ca) Tryd.underlying31 rfl rfl (cell_at hS.1 (by rw [← hgx]; rfl))) ?_
                      refine AH.take 2 rfl (by kernel_rfl) (by kernel_rfl) (by kernel_rfl) (fun _ _ _ _ h => h) ⟨hA, hB, hcx, hcy⟩ (by decide) (fun w hS => R.move rfl) ?_
                      refine AH.take 3 rfl (by kernel_rfl) (by kernel_rfl) (by kernel_rfl) (fun _ _ _ _ h => h) ⟨hA, hB, hcx, hcy⟩ (by decide) (fun w hS => R.indexAddr1 (i := j) Tryd.underlying31 sz57 rfl rfl rfl (by omega)) ?_
                      refine AH.take 4 rfl (by kernel_rfl) (by kernel_rfl) (by kernel_rfl) (fun _ _ _ _ h => h) ⟨hA, hB, hcx, hcy⟩ (by decide) (fun w hS => R.loadR (r := x) hx16 rfl hS.2.2.1) ?_
                      refine AH.take 5 rfl (by kernel_rfl) (by kernel_rfl) (by kernel_rfl) (fun _ _ _ _ h => h) ⟨hA, hB, hcx, hcy⟩ (by decide) (fun w hS => FA33_6 rfl) ?_
                      refine AH.take 6 rfl (by kernel_rfl) (by kernel_rfl) (by kernel_rfl) (fun _ _ _ _ h => h) ⟨hA, hB, hcx, hcy⟩ (by decide) (fun w hS => R.load (v := .slice (some ⟨gy, oy, none⟩) b.ans.length cb) Tryd.underlying31 rfl rfl (cell_at hS.2.1 (by rw [← hgy]; rfl))) ?_
                      refine AH.take 7 rfl (by kernel_rfl) (by kernel_rfl) (by kernel_rfl) (fun _ _ _ _ h => h) ⟨hA, hB, hcx, hcy⟩ (by decide) (fun w hS => R.move rfl) ?_
                      refine AH.take 8 rfl (by kernel_rfl) (by kernel_rfl) (by kernel_rfl) (fun _ _ _ _ h => h) ⟨hA, hB, hcx, hcy⟩ (by decide) (fun w hS => R.indexAddr1 (i := j) Tryd.underlying31 sz57 rfl rfl rfl (by omega)) ?_
                      refine AH.take 9 rfl (by kernel_rfl) (by kernel_rfl) (by kernel_rfl) (fun _ _ _ _ h => h) ⟨hA, hB, hcx, hcy⟩ (by decide) (fun w hS => R.loadR (r := y) hy16 rfl hS.2.2.2) ?_
                      by_cases h10 : ¬ x = y
                      · skip
                        refine AH.take 10 rfl (by kernel_rfl) (by kernel_rfl) (by kernel_rfl) (fun _ _ _ _ h => h) ⟨hA, hB, hcx, hcy⟩ (by decide) (fun w hS => R.neq57 hx16 hy16 rfl rfl (c := true) (by simp [h10])) ?_
                        refine AH.done (by kernel_rfl) ?_
                        refine EW.next ?_
                        refine CW.condT rfl ?_
                        refine CW.rseq ?_
                        refine WL.op (by decide) (R.assign rfl) ?_
                        refine WL.next ?_
                        refine CW.ret ?_
                        refine EW.inRet ?_
                        refine EW.thenRet ?_
                        refine EW.thenRet ?_
                        refine EW.inRet ?_
                        refine EW.thenRet ?_
                        exact EW.ret1 (.inl rfl) rfl rfl ⟨congrArg (fun b => Ending.returned (.bool b)) (sameM_no (fun e => (show ¬ x = y by assumption) (by subst e; exact Option.some.inj (hx.symm.trans hy)))).symm, hC⟩
                      · skip
                        refine AH.take 10 rfl (by kernel_rfl) (by kernel_rfl) (by kernel_rfl) (fun _ _ _ _ h => h) ⟨hA, hB, hcx, hcy⟩ (by decide) (fun w hS => R.neq57 hx16 hy16 rfl rfl (c := false) (by simpa using h10)) ?_
                        refine AH.done (by kernel_rfl) ?_
                        refine EW.next ?_
                        refine CW.condF rfl ?_
                        refine CW.skip ?_
                        refine EW.inNormal ?_
                        refine EW.next ?_
                        refine CW.region ?_
                        refine WL.op (by decide) (R.add rfl rfl (by omega)) ?_
                        refine WL.op (by decide) (R.move rfl) ?_
                        refine WL.nil ?_
                        exact EW.roundK [2, 3, 67, 68] (k - 1) (by omega) ⟨hC, hA, hB, hAa, hBa, hAb, hBb, j + 1, _, by omega, by omega, rfl, take_next htk hx hy (Classical.byContradiction (fun e => by contradiction))⟩
                    · skip
                      refine WL.next ?_
                      refine CW.seq ?_
                      refine CW.condF rfl ?_
                      refine CW.exit ?_
                      have hans : a.ans = b.ans := by rwa [List.take_of_length_le (by omega), List.take_of_length_le (by omega)] at htk
                      refine EW.thenExit ?_
                      refine EW.thenExit ?_
                      refine EW.inHere ?_
                      refine EW.next ?_
                      refine CW.seq ?_
                      refine CW.rseq ?_
                      refine WL.op (by decide) (FA33_7 rfl) ?_
                      refine WL.op (by decide) (R.load Tryd.underlying31 rfl rfl (cell_at hA rfl)) ?_
                      refine WL.op (by decide) (R.lenSlice rfl Tryd.underlying31 rfl) ?_
                      refine WL.op (by decide) (R.move rfl) ?_
                      refine WL.next ?_
                      refine CW.block ?_
                      refine CW.loopK [2, 3, 85, 86] (fun k l wr => Chg (fun _ => False) w0 wr ∧ wr.heap[ba]? = some (.cells (a.cells (.slice Aa a.ans.length ca) (.slice Ba a.auth.length da)).toArray 33 (0, 0)) ∧ wr.heap[bb]? = some (.cells (b.cells (.slice Ab b.ans.length cb) (.slice Bb b.auth.length db)).toArray 33 (0, 0)) ∧ RSl wr (.slice Aa a.ans.length ca) a.ans ∧ RSl wr (.slice Ba a.auth.length da) a.auth ∧ RSl wr (.slice Ab b.ans.length cb) b.ans ∧ RSl wr (.slice Bb b.auth.length db) b.auth ∧ ∃ (j : Nat) (jj : Int), j + k = a.auth.length ∧ jj = (j : Int) ∧ l = [(2, .pointer (some ⟨ba, 0, none⟩)), (3, .pointer (some ⟨bb, 0, none⟩)), (85, .int .i64 a.auth.length), (86, .int .i64 jj)] ∧ a.auth.take j = b.auth.take j) (a.auth.length) ?_ ?_
                      · exact ⟨hC, hA, hB, hAa, hBa, hAb, hBb, 0, 0, by omega, rfl, rfl, rfl⟩
                      · rintro k l wr ⟨hC, hA, hB, hAa, hBa, hAb, hBb, j, jj, hk, rfl, rfl, htk⟩
                        refine CW.rseq ?_
                        refine WL.lssS (by decide) rfl rfl (fun h11 => ?_) (fun h11 => ?_)
                        · skip
                          refine WL.next ?_
                          refine CW.seq ?_
                          refine CW.condT rfl ?_
                          refine CW.skip ?_
                          refine EW.next ?_
                          refine CW.seq ?_
                          refine CW.block ?_
                          refine CW.rseq ?_
                          refine WL.op (by decide) (R.move rfl) ?_
                          refine WL.op (by decide) (R.assign rfl) ?_
                          refine WL.next ?_
                          refine CW.seq ?_
                          obtain ⟨x, hx⟩ : ∃ x, a.auth[j]? = some x := ⟨a.auth[j]'(by omega), List.getElem?_eq_getElem _⟩
                          obtain ⟨y, hy⟩ : ∃ y, b.auth[j]? = some y := ⟨b.auth[j]'(by omega), List.getElem?_eq_getElem _⟩
                          obtain ⟨hx16, _, gx, ox, hgx, hcx⟩ := hBa.at hx
                          obtain ⟨hy16, _, gy, oy, hgy, hcy⟩ := hBb.at hy
                          refine CW.draw (fun w => w.heap[ba]? = some (.cells (a.cells (.slice Aa a.ans.length ca) (.slice Ba a.auth.length da)).toArray 33 (0, 0)) ∧ w.heap[bb]? = some (.cells (b.cells (.slice Ab b.ans.length cb) (.slice Bb b.auth.length db)).toArray 33 (0, 0)) ∧ (∀ i u, x.cells[i]? = some u → w.cell? ⟨gx, ox + j * 21 + i, none⟩ = some u) ∧ (∀ i u, y.cells[i]? = some u → w.cell? ⟨gy, oy + j * 21 + i, none⟩ = some u)) (by kernel_rfl) ?_
                          have hC := hC.trans (Chg.drew (fun _ => False) _)
                          have hA := (Chg.drew (fun _ => False) _).at hA (fun e => e)
                          have hB := (Chg.drew (fun _ => False) _).at hB (fun e => e)
                          have hAa := hAa.kept (Chg.drew (fun _ => False) _) (fun _ _ e => e)
                          have hBa := hBa.kept (Chg.drew (fun _ => False) _) (fun _ _ e => e)
                          have hAb := hAb.kept (Chg.drew (fun _ => False) _) (fun _ _ e => e)
                          have hBb := hBb.kept (Chg.drew (fun _ => False) _) (fun _ _ e => e)
                          refine AH.take 0 rfl (by kernel_rfl) (by kernel_rfl) (by kernel_rfl) (fun _ _ _ _ h => h) ⟨hA, hB, hcx, hcy⟩ (by decide) (fun w hS => FA33_7 rfl) ?_
                          refine AH.take 1 rfl (by kernel_rfl) (by kernel_rfl) (by kernel_rfl) (fun _ _ _ _ h => h) ⟨hA, hB, hcx, hcy⟩ (by decide) (fun w hS => R.load (v := .slice (some ⟨gx, ox, none⟩) a.auth.length da) Tryd.underlying31 rfl rfl (cell_at hS.1 (by rw [← hgx]; rfl))) ?_
                          refine AH.take 2 rfl (by kernel_rfl) (by kernel_rfl) (by kernel_rfl) (fun _ _ _ _ h => h) ⟨hA, hB, hcx, hcy⟩ (by decide) (fun w hS => R.move rfl) ?_
                          refine AH.take 3 rfl (by kernel_rfl) (by kernel_rfl) (by kernel_rfl) (fun _ _ _ _ h => h) ⟨hA, hB, hcx, hcy⟩ (by decide) (fun w hS => R.indexAddr1 (i := j) Tryd.underlying31 sz57 rfl rfl rfl (by omega)) ?_
                          refine AH.take 4 rfl (by kernel_rfl) (by kernel_rfl) (by kernel_rfl) (fun _ _ _ _ h => h) ⟨hA, hB, hcx, hcy⟩ (by decide) (fun w hS => R.loadR (r := x) hx16 rfl hS.2.2.1) ?_
                          refine AH.take 5 rfl (by kernel_rfl) (by kernel_rfl) (by kernel_rfl) (fun _ _ _ _ h => h) ⟨hA, hB, hcx, hcy⟩ (by decide) (fun w hS => FA33_7 rfl) ?_
                          refine AH.take 6 rfl (by kernel_rfl) (by kernel_rfl) (by kernel_rfl) (fun _ _ _ _ h => h) ⟨hA, hB, hcx, hcy⟩ (by decide) (fun w hS => R.load (v := .slice (some ⟨gy, oy, none⟩) b.auth.length db) Tryd.underlying31 rfl rfl (cell_at hS.2.1 (by rw [← hgy]; rfl))) ?_
                          refine AH.take 7 rfl (by kernel_rfl) (by kernel_rfl) (by kernel_rfl) (fun _ _ _ _ h => h) ⟨hA, hB, hcx, hcy⟩ (by decide) (fun w hS => R.move rfl) ?_
                          refine AH.take 8 rfl (by kernel_rfl) (by kernel_rfl) (by kernel_rfl) (fun _ _ _ _ h => h) ⟨hA, hB, hcx, hcy⟩ (by decide) (fun w hS => R.indexAddr1 (i := j) Tryd.underlying31 sz57 rfl rfl rfl (by omega)) ?_
                          refine AH.take 9 rfl (by kernel_rfl) (by kernel_rfl) (by kernel_rfl) (fun _ _ _ _ h => h) ⟨hA, hB, hcx, hcy⟩ (by decide) (fun w hS => R.loadR (r := y) hy16 rfl hS.2.2.2) ?_
                          by_cases h12 : ¬ x = y
                          · skip
                            refine AH.take 10 rfl (by kernel_rfl) (by kernel_rfl) (by kernel_rfl) (fun _ _ _ _ h => h) ⟨hA, hB, hcx, hcy⟩ (by decide) (fun w hS => R.neq57 hx16 hy16 rfl rfl (c := true) (by simp [h12])) ?_
                            refine AH.done (by kernel_rfl) ?_
                            refine EW.next ?_
                            refine CW.condT rfl ?_
                            refine CW.rseq ?_
                            refine WL.op (by decide) (R.assign rfl) ?_
                            refine WL.next ?_
                            refine CW.ret ?_
                            refine EW.inRet ?_
                            refine EW.thenRet ?_
                            refine EW.thenRet ?_
                            refine EW.inRet ?_
                            refine EW.thenRet ?_
                            exact EW.ret1 (.inl rfl) rfl rfl ⟨congrArg (fun b => Ending.returned (.bool b)) (sameM_no (fun e => (show ¬ x = y by assumption) (by subst e; exact Option.some.inj (hx.symm.trans hy)))).symm, hC⟩
                          · skip
                            refine AH.take 10 rfl (by kernel_rfl) (by kernel_rfl) (by kernel_rfl) (fun _ _ _ _ h => h) ⟨hA, hB, hcx, hcy⟩ (by decide) (fun w hS => R.neq57 hx16 hy16 rfl rfl (c := false) (by simpa using h12)) ?_
                            refine AH.done (by kernel_rfl) ?_
                            refine EW.next ?_
                            refine CW.condF rfl ?_
                            refine CW.skip ?_
                            refine EW.inNormal ?_
                            refine EW.next ?_
                            refine CW.region ?_
                            refine WL.op (by decide) (R.add rfl rfl (by omega)) ?_
                            refine WL.op (by decide) (R.move rfl) ?_
                            refine WL.nil ?_
                            exact EW.roundK [2, 3, 85, 86] (k - 1) (by omega) ⟨hC, hA, hB, hAa, hBa, hAb, hBb, j + 1, _, by omega, by omega, rfl, take_next htk hx hy (Classical.byContradiction (fun e => by contradiction))⟩
                        · skip
                          refine WL.next ?_
                          refine CW.seq ?_
                          refine CW.condF rfl ?_
                          refine CW.exit ?_
                          have hauth : a.auth = b.auth := by rwa [List.take_of_length_le (by omega), List.take_of_length_le (by omega)] at htk
                          refine EW.thenExit ?_
                          refine EW.thenExit ?_
                          refine EW.inHere ?_
                          refine EW.next ?_
                          refine CW.rseq ?_
                          refine WL.op (by decide) (R.assign rfl) ?_
                          refine WL.next ?_
                          refine CW.ret ?_
                          exact EW.ret1 (.inl rfl) rfl rfl ⟨congrArg (fun b => Ending.returned (.bool b)) (sameM_yes (by omega) (by simpa using @h2) (by simpa using @h3) (by simpa using @h4) (by omega) (by simpa using @h6) hans hauth).symm, hC⟩
end Go.Proofs.YthcpjcgjmdfpjaaDoor

namespace Go.Proofs.YthcpjcgjmdfpjaaDoor
open Go Go.RowKit

/-- From a place in bytes a name's labels are read, with so many leaps, and the reader goes on at the last place. -/
inductive RN (bs : List UInt8) : Nat → List (List UInt8) → Nat → Nat → Prop
  | zero {a : Nat} (h : bs[a]? = some 0) : RN bs a [] 0 (a + 1)
  | lab {a h e : Nat} {x : List UInt8} {ls : List (List UInt8)} {c : UInt8} (hc : bs[a]? = some c) (hn : c.toNat = x.length) (h0 : 0 < x.length) (h63 : x.length ≤ 63) (hx : (bs.drop (a + 1)).take x.length = x) (hr : RN bs (a + 1 + x.length) ls h e) : RN bs a (x :: ls) h e
  | ptr {a p h e : Nat} {ls : List (List UInt8)} {c c2 : UInt8} (hc : bs[a]? = some c) (h192 : 192 ≤ c.toNat) (hc2 : bs[a + 1]? = some c2) (hp : p = c.toNat % 64 * 256 + c2.toNat) (hlt : p < a) (hr : RN bs p ls h e) : RN bs a ls (h + 1) (a + 2)

theorem at_app {bs more : List UInt8} {a : Nat} {c : UInt8} (h : bs[a]? = some c) : (bs ++ more)[a]? = some c := by
  rw [List.getElem?_append_left (List.getElem?_eq_some_iff.1 h).1]; exact h
theorem take_len {bs x : List UInt8} {a : Nat} (hx : (bs.drop a).take x.length = x) : x.length = 0 ∨ a + x.length ≤ bs.length := by
  have := congrArg List.length hx
  rw [List.length_take, List.length_drop] at this
  omega
theorem RN.app {bs : List UInt8} (more : List UInt8) {a h e : Nat} {ls : List (List UInt8)} (hr : RN bs a ls h e) : RN (bs ++ more) a ls h e := by
  induction hr with
  | zero h => exact .zero (at_app h)
  | lab hc hn h0 h63 hx _ ih =>
    refine .lab (at_app hc) hn h0 h63 ?_ ih
    have := take_len hx
    rw [List.drop_append_of_le_length (by omega), List.take_append_of_le_length (by rw [List.length_drop]; omega)]
    exact hx
  | ptr hc h192 hc2 hp hlt _ ih => exact .ptr (at_app hc) h192 (at_app hc2) hp hlt ih
theorem RN.lt {bs : List UInt8} {a h e : Nat} {ls : List (List UInt8)} (hr : RN bs a ls h e) : a < bs.length := by
  cases hr with
  | zero h => exact (List.getElem?_eq_some_iff.1 h).1
  | lab hc _ _ _ _ _ => exact (List.getElem?_eq_some_iff.1 hc).1
  | ptr hc _ _ _ _ _ => exact (List.getElem?_eq_some_iff.1 hc).1

/-- What the reader makes of it. -/
theorem rd_of_RN {bs : List UInt8} {a h e : Nat} {ls : List (List UInt8)} (hr : RN bs a ls h e) : ∀ (f hops size : Nat) (acc : List (List UInt8)) (r : Nat), ls.length + h < f → hops + h ≤ 16 → size + wlen ls ≤ 254 → namesL (joinL (acc ++ ls.map lower)) = true →
    rdName bs f a hops size acc r = some (joinL (acc ++ ls.map lower), if hops = 0 then e else r) := by
  induction hr with
  | zero h =>
    intro f hops size acc r hf _ _ hn
    obtain ⟨g, rfl⟩ : ∃ g, f = g + 1 := ⟨f - 1, by omega⟩
    rw [List.map_nil, List.append_nil] at hn ⊢
    rw [rd_zero h rfl, if_pos hn]
  | @lab a h e x ls c hc hl h0 h63 hx hr ih =>
    intro f hops size acc r hf hh hs hn
    obtain ⟨g, rfl⟩ : ∃ g, f = g + 1 := ⟨f - 1, by omega⟩
    have hlt := take_len hx
    simp only [wlen, List.length_cons] at hs hf
    rw [rd_lab hc (by omega) (by omega) (by omega), hl, hx]
    have e1 : acc ++ (x :: ls).map lower = (acc ++ [lower x]) ++ ls.map lower := by simp
    rw [e1] at hn ⊢
    exact ih g hops _ _ r (by omega) hh (by omega) hn
  | @ptr a p h e ls c c2 hc h192 hc2 hp hlt hr ih =>
    intro f hops size acc r hf hh hs hn
    obtain ⟨g, rfl⟩ : ∃ g, f = g + 1 := ⟨f - 1, by omega⟩
    subst hp
    rw [rd_ptr hc h192 hc2 (by omega) (by omega)]
    rw [ih g (hops + 1) size acc _ (by omega) (by omega) hs hn, if_neg (by omega)]

/-! ### Labels -/
def Lab (x : List UInt8) : Prop := 0 < x.length ∧ x.length ≤ 63 ∧ ∀ c ∈ x, c ≠ 46
theorem splitL_nodot {x : List UInt8} (h : ∀ c ∈ x, c ≠ 46) : splitL x = [x] := by
  induction x with
  | nil => rfl
  | cons c r ih => rw [splitL_sign (h c (by simp)), ih (fun d hd => h d (by simp [hd]))]; rfl
theorem splitL_app {x : List UInt8} (h : ∀ c ∈ x, c ≠ 46) (r : List UInt8) : splitL (x ++ 46 :: r) = x :: splitL r := by
  induction x with
  | nil => exact splitL_dot r
  | cons c y ih => rw [List.cons_append, splitL_sign (h c (by simp)), ih (fun d hd => h d (by simp [hd]))]; rfl
theorem split_join : ∀ {ls : List (List UInt8)}, ls ≠ [] → (∀ x ∈ ls, Lab x) → splitL (joinL ls) = ls
  | [], h, _ => absurd rfl h
  | [x], _, hl => splitL_nodot (hl x (by simp)).2.2
  | x :: y :: r, _, hl => by
    show splitL (x ++ 46 :: joinL (y :: r)) = _
    rw [splitL_app (hl x (by simp)).2.2, split_join (by simp) (fun z hz => hl z (by simp [hz]))]
theorem join_split (s : List UInt8) : joinL (splitL s) = s := by
  induction s with
  | nil => rfl
  | cons c r ih =>
    by_cases e : c = 46
    · subst e
      rw [splitL_dot]
      cases hs : splitL r with
      | nil => exact absurd hs (splitL_ne r)
      | cons y ys => rw [hs] at ih; show [] ++ 46 :: joinL (y :: ys) = _; rw [ih]; rfl
    · rw [splitL_sign e]
      cases hs : splitL r with
      | nil => exact absurd hs (splitL_ne r)
      | cons y ys =>
        rw [hs] at ih
        cases ys with
        | nil => show [c] ++ y = _; have : y = r := ih; rw [this]; rfl
        | cons z zs => show ([c] ++ y) ++ 46 :: joinL (z :: zs) = _; rw [← ih]; simp [joinL]
theorem splitL_dotfree (s : List UInt8) : ∀ x ∈ splitL s, ∀ c ∈ x, c ≠ 46 := by
  induction s with
  | nil => intro x hx c hc; simp [splitL] at hx; subst hx; cases hc
  | cons d r ih =>
    intro x hx c hc
    by_cases e : d = 46
    · subst e; rw [splitL_dot] at hx
      rcases List.mem_cons.1 hx with rfl | h
      · cases hc
      · exact ih x h c hc
    · rw [splitL_sign e] at hx
      cases hs : splitL r with
      | nil => exact absurd hs (splitL_ne r)
      | cons y ys =>
        rw [hs] at hx ih
        rcases List.mem_cons.1 hx with rfl | h
        · rcases List.mem_cons.1 hc with rfl | h2
          · exact e
          · exact ih y (by simp) c h2
        · exact ih x (by simp [h]) c hc
theorem rightL_len {x : List UInt8} (h : rightL x = true) : 0 < x.length ∧ x.length ≤ 63 := by
  unfold rightL at h
  simp only [Bool.and_eq_true, decide_eq_true_eq, bne_iff_ne, ne_eq] at h
  exact ⟨List.length_pos_iff.2 h.1.1.1.1, h.1.1.1.2⟩
theorem names_lab {s : List UInt8} (h : namesL s = true) : ∀ x ∈ splitL s, Lab x := by
  intro x hx
  have hr : rightL x = true := by
    unfold namesL at h
    simp only [Bool.and_eq_true, List.all_eq_true] at h
    exact h.2 x hx
  exact ⟨(rightL_len hr).1, (rightL_len hr).2, splitL_dotfree s x hx⟩
theorem names_len {s : List UInt8} (h : namesL s = true) : s.length ≤ 253 ∧ lower s = s := by
  unfold namesL at h
  simp only [Bool.and_eq_true, decide_eq_true_eq, beq_iff_eq] at h
  exact h.1
theorem low1_dot (c : UInt8) : low1 c = 46 ↔ c = 46 := by
  unfold low1
  split
  · rename_i h
    constructor
    · intro h2
      have h3 := congrArg UInt8.toNat h2
      rw [UInt8.toNat_add] at h3
      have : (32 : UInt8).toNat = 32 := rfl
      have : (46 : UInt8).toNat = 46 := rfl
      omega
    · intro h2; subst h2
      have : (46 : UInt8).toNat = 46 := rfl
      omega
  · exact Iff.rfl
theorem split_lower (s : List UInt8) : splitL (lower s) = (splitL s).map lower := by
  induction s with
  | nil => rfl
  | cons c r ih =>
    show splitL (low1 c :: lower r) = _
    by_cases e : c = 46
    · subst e
      rw [show low1 46 = 46 from (low1_dot 46).2 rfl, splitL_dot, splitL_dot, ih]; rfl
    · have e2 : low1 c ≠ 46 := fun h => e ((low1_dot c).1 h)
      rw [splitL_sign e2, splitL_sign e, ih]
      cases hs : splitL r with
      | nil => exact absurd hs (splitL_ne r)
      | cons y ys => simp [ph, lower]
theorem names_lower {s : List UInt8} (h : namesL s = true) : (splitL s).map lower = splitL s := by
  rw [← split_lower, (names_len h).2]
theorem joinL_shorter {x : List UInt8} {xs : List (List UInt8)} (h : 0 < x.length) : (joinL xs).length < (joinL (x :: xs)).length := by
  cases xs with
  | nil => simpa [joinL] using h
  | cons y ys => simp [joinL]; omega

/-! ### Written names are read -/
theorem byteOf_small {n : Nat} (h : n < 256) : (byteOf (n : Int)).toNat = n := by
  have := byteOf_toNat (n : Int)
  have h2 : ((byteOf (n : Int)).toNat : Int) = (n : Int) % 256 := by first | exact this.symm | exact this
  omega
def GoodE (b : List UInt8) (e : List UInt8 × Nat) : Prop := e.2 < 16384 ∧ ∃ h p, RN b e.2 (splitL e.1) h p ∧ h + 1 ≤ (splitL e.1).length
theorem GoodE.app {b : List UInt8} {e : List UInt8 × Nat} (h : GoodE b e) (more : List UInt8) : GoodE (b ++ more) e := by
  obtain ⟨h1, k, p, h2, h3⟩ := h
  exact ⟨h1, k, p, h2.app more, h3⟩
theorem beN2 (p : Nat) : beN 2 (p : Int) = [byteOf ((p / 256 : Nat) : Int), byteOf (p : Int)] := by
  have e1 : (p : Int) / 2 ^ (8 * 1) = ((p / 256 : Nat) : Int) := by
    have : (2 : Int) ^ (8 * 1) = 256 := rfl
    rw [this]; omega
  have e2 : (p : Int) / 2 ^ (8 * 0) = (p : Int) := by
    have : (2 : Int) ^ (8 * 0) = 1 := rfl
    rw [this]; omega
  show [byteOf ((p : Int) / 2 ^ (8 * 1)), byteOf ((p : Int) / 2 ^ (8 * 0))] = _
  rw [e1, e2]
theorem byteOf_mod (n : Nat) : (byteOf (n : Int)).toNat = n % 256 := by
  have := byteOf_toNat (n : Int)
  have h2 : ((byteOf (n : Int)).toNat : Int) = (n : Int) % 256 := by first | exact this.symm | exact this
  omega
theorem or_c000 {p : Nat} (h : p < 16384) : 49152 ||| p = 49152 + p := by
  have := Nat.shiftLeft_add_eq_or_of_lt (show p < 2 ^ 14 by omega) 3
  rw [Nat.shiftLeft_eq, show 3 * 2 ^ 14 = 49152 from rfl] at this
  omega

theorem wr_reads : ∀ (ls : List (List UInt8)) (b : List UInt8) (at_ : At), (∀ x ∈ ls, Lab x) → (∀ e ∈ at_, e.1.length ≤ (joinL ls).length → GoodE b e) →
    ∃ t, (wrLabels ls b at_).1 = b ++ t ∧ (∃ h, RN (b ++ t) b.length ls h (b ++ t).length ∧ h ≤ ls.length) ∧ ∀ e ∈ (wrLabels ls b at_).2, e ∈ at_ ∨ GoodE (b ++ t) e
  | [], b, at_, _, _ => by
    refine ⟨[0], rfl, ⟨0, ?_, Nat.le_refl _⟩, fun e he => .inl he⟩
    have : (b ++ [0])[b.length]? = some 0 := by rw [List.getElem?_append_right (Nat.le_refl _)]; simp
    have h := RN.zero this
    have e : (b ++ [(0 : UInt8)]).length = b.length + 1 := by simp
    rw [e]; exact h
  | x :: xs, b, at_, hl, hg => by
    have hsj := split_join (ls := x :: xs) (by simp) hl
    unfold wrLabels
    cases hlk : lookA at_ (joinL (x :: xs)) with
    | some p =>
      obtain ⟨h1, k, q, h2, h3⟩ := hg _ (lookA_mem hlk) (Nat.le_refl _)
      simp only at h1 h2 h3
      rw [hsj] at h2 h3
      have hlt := h2.lt
      refine ⟨beN 2 ((49152 ||| p : Nat) : Int), rfl, ⟨k + 1, ?_, h3⟩, fun e he => .inl he⟩
      rw [or_c000 h1, beN2]
      have e1 : (b ++ [byteOf (((49152 + p) / 256 : Nat) : Int), byteOf ((49152 + p : Nat) : Int)])[b.length]? = some (byteOf (((49152 + p) / 256 : Nat) : Int)) := by
        rw [List.getElem?_append_right (Nat.le_refl _)]; simp
      have e2 : (b ++ [byteOf (((49152 + p) / 256 : Nat) : Int), byteOf ((49152 + p : Nat) : Int)])[b.length + 1]? = some (byteOf ((49152 + p : Nat) : Int)) := by
        rw [List.getElem?_append_right (by omega)]; simp
      have h := RN.ptr (ls := x :: xs) (p := p) (h := k) (e := q) e1 (by rw [byteOf_mod]; omega) e2 (by rw [byteOf_mod, byteOf_mod]; omega) hlt (h2.app _)
      rwa [show (b ++ [byteOf (((49152 + p) / 256 : Nat) : Int), byteOf ((49152 + p : Nat) : Int)]).length = b.length + 2 by simp]
    | none =>
      simp only
      have hx := hl x (by simp)
      obtain ⟨t, h1, ⟨k, h2, h3⟩, h4⟩ := wr_reads xs (b ++ [byteOf (x.length : Nat)] ++ x) (if b.length < 16384 then at_ ++ [(joinL (x :: xs), b.length)] else at_) (fun y hy => hl y (by simp [hy])) (by
        intro e he hle
        have hsh := joinL_shorter (xs := xs) hx.1
        have key : e ∈ at_ → GoodE (b ++ [byteOf (x.length : Nat)] ++ x) e := fun h => by
          rw [List.append_assoc]; exact (hg e h (by omega)).app _
        split at he
        · rcases List.mem_append.1 he with h | h
          · exact key h
          · rw [List.mem_singleton.1 h] at hle; simp only at hle; omega
        · exact key he)
      have hne : (b ++ [byteOf (x.length : Nat)] ++ x).length = b.length + 1 + x.length := by simp; omega
      have hc : (b ++ [byteOf (x.length : Nat)] ++ x ++ t)[b.length]? = some (byteOf (x.length : Nat)) := by
        rw [List.append_assoc, List.append_assoc, List.getElem?_append_right (Nat.le_refl _)]; simp
      have hd : ((b ++ [byteOf (x.length : Nat)] ++ x ++ t).drop (b.length + 1)).take x.length = x := by
        have : (b ++ [byteOf (x.length : Nat)] ++ x ++ t).drop (b.length + 1) = x ++ t := by
          rw [List.append_assoc, List.drop_left' (by simp)]
        rw [this, List.take_left' rfl]
      rw [hne] at h2
      have hrn : RN (b ++ [byteOf (x.length : Nat)] ++ x ++ t) b.length (x :: xs) k (b ++ [byteOf (x.length : Nat)] ++ x ++ t).length := RN.lab hc (byteOf_small (by have := hx.2.1; omega)) hx.1 hx.2.1 hd h2
      refine ⟨[byteOf (x.length : Nat)] ++ x ++ t, by rw [h1]; simp, ⟨k, by simpa using hrn, by simp; omega⟩, fun e he => ?_⟩
      have e0 : b ++ ([byteOf (x.length : Nat)] ++ x ++ t) = b ++ [byteOf (x.length : Nat)] ++ x ++ t := by simp
      rw [e0]
      rcases h4 e he with h | h
      · split at h
        · rename_i hlt
          rcases List.mem_append.1 h with h5 | h5
          · exact .inl h5
          · rw [List.mem_singleton.1 h5]
            refine .inr ⟨hlt, k, (b ++ [byteOf (x.length : Nat)] ++ x ++ t).length, ?_, ?_⟩
            · simp only; rw [hsj]; exact hrn
            · simp only; rw [hsj]; simp; omega
        · exact .inl h
      · exact .inr h

/-- What is written behind bytes hangs on how many these are, and on the map. -/
theorem wr_ext : ∀ (ls : List (List UInt8)) (b b' : List UInt8) (at_ : At), b.length = b'.length → ∃ t at1, wrLabels ls b at_ = (b ++ t, at1) ∧ wrLabels ls b' at_ = (b' ++ t, at1)
  | [], b, b', at_, _ => ⟨[0], at_, rfl, rfl⟩
  | x :: xs, b, b', at_, h => by
    unfold wrLabels
    cases lookA at_ (joinL (x :: xs)) with
    | some p => exact ⟨_, _, rfl, rfl⟩
    | none =>
      simp only
      rw [← h]
      obtain ⟨t, at1, h1, h2⟩ := wr_ext xs (b ++ [byteOf (x.length : Nat)] ++ x) (b' ++ [byteOf (x.length : Nat)] ++ x) (if b.length < 16384 then at_ ++ [(joinL (x :: xs), b.length)] else at_) (by simp [h])
      exact ⟨[byteOf (x.length : Nat)] ++ x ++ t, at1, by rw [h1]; simp, by rw [h2]; simp⟩

def GoodAll (b : List UInt8) (at_ : At) : Prop := ∀ e ∈ at_, GoodE b e
theorem GoodAll.app {b : List UInt8} {at_ : At} (h : GoodAll b at_) (more : List UInt8) : GoodAll (b ++ more) at_ := fun e he => (h e he).app more
/-- A name written is read, whatever stands behind. -/
theorem name_reads {s b : List UInt8} {at_ : At} (hn : namesL s = true) (hk : (splitL s).length ≤ 16) (hg : GoodAll b at_) :
    ∃ t, (wrName s (b, at_)).1 = b ++ t ∧ GoodAll (b ++ t) (wrName s (b, at_)).2 ∧ ∀ more, rdName (b ++ t ++ more) 300 b.length 0 0 [] b.length = some (s, (b ++ t).length) := by
  obtain ⟨t, h1, ⟨h, h2, h3⟩, h4⟩ := wr_reads (splitL s) b at_ (names_lab hn) (fun e he _ => hg e he)
  refine ⟨t, h1, fun e he => ?_, fun more => ?_⟩
  · rcases h4 e he with h5 | h5
    · exact (hg e h5).app t
    · exact h5
  · have hw := wlen_split s
    have hl := names_len hn
    have := rd_of_RN (h2.app more) 300 0 0 [] b.length (by omega) (by omega) (by omega) (by rw [List.nil_append, names_lower hn, join_split]; exact hn)
    rw [this, List.nil_append, names_lower hn, join_split, if_pos rfl]
end Go.Proofs.YthcpjcgjmdfpjaaDoor

namespace Go.Proofs.YthcpjcgjmdfpjaaDoor
open Go Go.RowKit
set_option maxRecDepth 100000

theorem beNat2 {p : Nat} (h : p < 65536) : beNat (beN 2 (p : Int)) = p := by
  rw [beN2]
  simp only [beNat, List.foldl_cons, List.foldl_nil, byteOf_mod]
  omega
theorem beNat4 {p : Nat} (h : p < 4294967296) : beNat (beN 4 (p : Int)) = p := by
  have e3 : (p : Int) / 2 ^ (8 * 3) = ((p / 16777216 : Nat) : Int) := by
    have : (2 : Int) ^ (8 * 3) = 16777216 := rfl
    rw [this]; omega
  have e2 : (p : Int) / 2 ^ (8 * 2) = ((p / 65536 : Nat) : Int) := by
    have : (2 : Int) ^ (8 * 2) = 65536 := rfl
    rw [this]; omega
  have e : beN 4 (p : Int) = [byteOf ((p / 16777216 : Nat) : Int), byteOf ((p / 65536 : Nat) : Int)] ++ beN 2 (p : Int) := by
    show byteOf ((p : Int) / 2 ^ (8 * 3)) :: byteOf ((p : Int) / 2 ^ (8 * 2)) :: beN 2 (p : Int) = _
    rw [e3, e2]; rfl
  rw [e, beN2]
  simp only [beNat, List.cons_append, List.nil_append, List.foldl_cons, List.foldl_nil, byteOf_mod]
  omega
/-- A part of bytes. -/
theorem part_at {pre mid rest : List UInt8} {a n : Nat} (ha : pre.length = a) (hn : mid.length = n) : ((pre ++ (mid ++ rest)).drop a).take n = mid := by
  rw [List.drop_left' ha, List.take_left' hn]

theorem set_two (h d : List UInt8) (x y : UInt8) : ((h ++ [0, 0] ++ d).set h.length x).set (h.length + 1) y = h ++ [x, y] ++ d := by
  have e1 : (h ++ [0, 0] ++ d).set h.length x = h ++ [x, 0] ++ d := by
    rw [List.append_assoc, List.set_append_right _ _ (Nat.le_refl _), Nat.sub_self]; simp
  rw [e1, List.append_assoc, List.set_append_right _ _ (by omega), show h.length + 1 - h.length = 1 by omega]; simp
theorem setN_two (h d : List UInt8) : setN (h ++ [0, 0] ++ d) h.length = h ++ beN 2 ((d.length : Nat) : Int) ++ d := by
  unfold setN
  have e1 : (((h ++ [0, 0] ++ d).length : Nat) : Int) - (h.length : Int) - 2 = ((d.length : Nat) : Int) := by
    simp only [List.length_append, List.length_cons, List.length_nil]; omega
  rw [e1, set_two, beN2]
  have e2 : ((d.length : Nat) : Int) / 2 ^ (8 : Int).toNat = ((d.length / 256 : Nat) : Int) := by
    have : (2 : Int) ^ (8 : Int).toNat = 256 := rfl
    rw [this]; omega
  rw [e2]

/-- What a record must be to come back. -/
structure RBack (r : Rec) : Prop where
  right : rightR r = true
  a16 : r.addr.length = 16
  n : (splitL r.name).length ≤ 16
  t : (splitL r.text).length ≤ 16

theorem right_parts {r : Rec} (h : rightR r = true) : namesL r.name = true ∧ 0 ≤ r.ttl ∧ r.ttl ≤ 1048576 ∧
    ((r.type = 1 ∧ r.text = [] ∧ r.data = [] ∧ r.addr.take 12 = mappedL) ∨ (r.type = 28 ∧ r.text = [] ∧ r.data = []) ∨
     ((r.type = 2 ∨ r.type = 5 ∨ r.type = 12) ∧ r.data = [] ∧ r.addr = zero16 ∧ namesL r.text = true) ∨
     (¬ r.type = 1 ∧ ¬ r.type = 28 ∧ ¬ (r.type = 2 ∨ r.type = 5 ∨ r.type = 12) ∧ 0 < r.type ∧ r.type < 65536 ∧ r.text = [] ∧ r.addr = zero16 ∧ r.data.length ≤ 255)) := by
  unfold rightR at h
  simp only [Bool.and_eq_true, decide_eq_true_eq] at h
  obtain ⟨⟨⟨h1, h2⟩, h3⟩, h4⟩ := h
  refine ⟨h1, h2, h3, ?_⟩
  split at h4
  · rename_i e
    simp only [Bool.and_eq_true, decide_eq_true_eq] at h4
    exact .inl ⟨e, h4.1.1, h4.1.2, h4.2⟩
  · rename_i e1
    split at h4
    · rename_i e
      simp only [Bool.and_eq_true, decide_eq_true_eq] at h4
      exact .inr (.inl ⟨e, h4.1, h4.2⟩)
    · rename_i e2
      split at h4
      · rename_i e
        simp only [Bool.and_eq_true, decide_eq_true_eq] at h4
        exact .inr (.inr (.inl ⟨e, h4.1.1, h4.1.2, h4.2⟩))
      · rename_i e3
        simp only [Bool.and_eq_true, decide_eq_true_eq] at h4
        exact .inr (.inr (.inr ⟨e1, e2, e3, h4.1.1.1.1, h4.1.1.1.2, h4.1.1.2, h4.1.2, h4.2⟩))

/-- A record's data written is read again. -/
theorem body_back {r : Rec} (hr : RBack r) (ty : Nat) (hty : r.type = ty) (h : List UInt8) (at_ : At) (hg : GoodAll h at_) :
    ∃ d at2, (∀ x y : UInt8, wrBody r (h ++ [x, y]) at_ = (h ++ [x, y] ++ d, at2) ∧ GoodAll (h ++ [x, y] ++ d) at2 ∧ ∀ more, recBody (h ++ [x, y] ++ d ++ more) r.name ty r.ttl (h.length + 2) d.length = some r) ∧ d.length < 65536 := by
  have part : ∀ (x y : UInt8) (d more : List UInt8), ((h ++ [x, y] ++ d ++ more).drop (h.length + 2)).take d.length = d := by
    intro x y d more
    rw [List.append_assoc]
    exact part_at (by simp) rfl
  obtain ⟨hn, _, _, hc⟩ := right_parts hr.right
  obtain ⟨name, type, ttl, addr, text, data⟩ := r
  simp only at hty hn hc
  subst hty
  have ha16 : addr.length = 16 := hr.a16
  rcases hc with ⟨e, rfl, rfl, e3⟩ | ⟨e, rfl, rfl⟩ | ⟨e, rfl, rfl, e3⟩ | ⟨e1, e2, e3, _, _, rfl, rfl, e6⟩
  · refine ⟨addr.drop 12, at_, fun x y => ⟨body1 e, ?_, fun more => ?_⟩, by simp [ha16]⟩
    · rw [List.append_assoc]; exact hg.app _
    · rw [body_a (by omega) (by simp [ha16]), part]
      have : mappedL ++ addr.drop 12 = addr := by rw [← e3, List.take_append_drop]
      rw [this]
  · refine ⟨addr, at_, fun x y => ⟨body2 e, ?_, fun more => ?_⟩, by simp [ha16]⟩
    · rw [List.append_assoc]; exact hg.app _
    · rw [body_aaaa (by omega) ha16, part]
  · obtain ⟨t, at2, hw, _⟩ := wr_ext (splitL text) (h ++ [0, 0]) (h ++ [0, 0]) at_ rfl
    have hw' : ∀ x y : UInt8, wrLabels (splitL text) (h ++ [x, y]) at_ = (h ++ [x, y] ++ t, at2) := by
      intro x y
      obtain ⟨t', at', h1, h2⟩ := wr_ext (splitL text) (h ++ [0, 0]) (h ++ [x, y]) at_ (by simp)
      rw [hw] at h1
      injection h1 with h3 h4
      have := List.append_cancel_left h3
      rw [h2, this, h4]
    have htl : t.length < 65536 := by
      have h1 := wrLabels_length (splitL text) (h ++ [0, 0]) at_
      have h2 := wlen_split text
      have h3 := (names_len e3).1
      rw [hw] at h1
      simp only [List.length_append, List.length_cons, List.length_nil] at h1
      omega
    refine ⟨t, at2, fun x y => ?_, htl⟩
    obtain ⟨t', h1, h2, h3⟩ := name_reads (s := text) (b := h ++ [x, y]) e3 hr.t (by exact hg.app _)
    have e0 : wrName text (h ++ [x, y], at_) = (h ++ [x, y] ++ t, at2) := hw' x y
    rw [e0] at h1 h2
    have e5 : t = t' := List.append_cancel_left h1
    subst e5
    refine ⟨by rw [body3 e, e0], h2, fun more => ?_⟩
    have h4 := h3 more
    rw [show (h ++ [x, y]).length = h.length + 2 by simp, show (h ++ [x, y] ++ t).length = h.length + 2 + t.length by simp; omega] at h4
    unfold recBody
    rw [if_neg (by omega), if_neg (by omega), if_pos (by omega), h4]
    simp
  · refine ⟨data, at_, fun x y => ⟨body4 e1 e2 e3, ?_, fun more => ?_⟩, by omega⟩
    · rw [List.append_assoc]; exact hg.app _
    · rw [body_other (by omega) (by omega) (by omega), part]

theorem ttlOf_back {n : Nat} (h : n ≤ 1048576) : ttlOf n = (n : Int) := by
  unfold ttlOf
  rw [if_neg (by omega)]
/-- A record written is read again. -/
theorem rec_back {r : Rec} (hr : RBack r) {b : List UInt8} {at_ : At} (hg : GoodAll b at_) :
    ∃ t, (wrRec r (b, at_)).1 = b ++ t ∧ GoodAll (b ++ t) (wrRec r (b, at_)).2 ∧ ∀ more, readRec (b ++ t ++ more) b.length = some (r, (b ++ t).length) := by
  obtain ⟨hn, htl0, htl1, hc⟩ := right_parts hr.right
  obtain ⟨ttl, httl⟩ : ∃ n : Nat, r.ttl = n := ⟨r.ttl.toNat, by omega⟩
  obtain ⟨ty, hty⟩ : ∃ n : Nat, r.type = n := ⟨r.type.toNat, by omega⟩
  have htyl : ty < 65536 := by omega
  obtain ⟨t1, h1, h2, h3⟩ := name_reads (s := r.name) (b := b) (at_ := at_) hn hr.n hg
  obtain ⟨hd, hhd⟩ : ∃ hd, hd = beN 2 r.type ++ beN 2 1 ++ beN 4 r.ttl := ⟨_, rfl⟩
  have hhl : hd.length = 8 := by rw [hhd]; simp [beN_length]
  have hH : wrHead r (wrName r.name (b, at_)).1 = b ++ t1 ++ hd := by unfold wrHead; rw [h1, hhd]; simp
  obtain ⟨d, at2, hb, hdl⟩ := body_back hr ty hty (b ++ t1 ++ hd) (wrName r.name (b, at_)).2 (h2.app hd)
  have hdl2 : (beN 2 ((d.length : Nat) : Int)) = [byteOf ((d.length / 256 : Nat) : Int), byteOf ((d.length : Nat) : Int)] := beN2 _
  obtain ⟨hb1, hb2, hb3⟩ := hb (byteOf ((d.length / 256 : Nat) : Int)) (byteOf ((d.length : Nat) : Int))
  have hw : wrRec r (b, at_) = (b ++ t1 ++ hd ++ beN 2 ((d.length : Nat) : Int) ++ d, at2) := by
    unfold wrRec
    rw [hH, (hb 0 0).1, setN_two]
  rw [hw]
  refine ⟨t1 ++ hd ++ beN 2 ((d.length : Nat) : Int) ++ d, by simp, ?_, fun more => ?_⟩
  · have : b ++ (t1 ++ hd ++ beN 2 ((d.length : Nat) : Int) ++ d) = b ++ t1 ++ hd ++ beN 2 ((d.length : Nat) : Int) ++ d := by simp
    rw [this, hdl2]; exact hb2
  · have e0 : b ++ (t1 ++ hd ++ beN 2 ((d.length : Nat) : Int) ++ d) ++ more = b ++ t1 ++ (hd ++ beN 2 ((d.length : Nat) : Int) ++ d ++ more) := by simp
    have hrd := h3 (hd ++ beN 2 ((d.length : Nat) : Int) ++ d ++ more)
    rw [e0]
    have p0 : ((b ++ t1 ++ (hd ++ beN 2 ((d.length : Nat) : Int) ++ d ++ more)).drop (b ++ t1).length).take 2 = beN 2 r.type := by
      rw [show hd ++ beN 2 ((d.length : Nat) : Int) ++ d ++ more = beN 2 r.type ++ (beN 2 1 ++ beN 4 r.ttl ++ beN 2 ((d.length : Nat) : Int) ++ d ++ more) by rw [hhd]; simp]
      exact part_at rfl (beN_length _ _)
    have p2 : ((b ++ t1 ++ (hd ++ beN 2 ((d.length : Nat) : Int) ++ d ++ more)).drop ((b ++ t1).length + 2)).take 2 = beN 2 1 := by
      rw [show b ++ t1 ++ (hd ++ beN 2 ((d.length : Nat) : Int) ++ d ++ more) = (b ++ t1 ++ beN 2 r.type) ++ (beN 2 1 ++ (beN 4 r.ttl ++ beN 2 ((d.length : Nat) : Int) ++ d ++ more)) by rw [hhd]; simp]
      exact part_at (by simp [beN_length]; omega) (beN_length _ _)
    have p4 : ((b ++ t1 ++ (hd ++ beN 2 ((d.length : Nat) : Int) ++ d ++ more)).drop ((b ++ t1).length + 4)).take 4 = beN 4 r.ttl := by
      rw [show b ++ t1 ++ (hd ++ beN 2 ((d.length : Nat) : Int) ++ d ++ more) = (b ++ t1 ++ beN 2 r.type ++ beN 2 1) ++ (beN 4 r.ttl ++ (beN 2 ((d.length : Nat) : Int) ++ d ++ more)) by rw [hhd]; simp]
      exact part_at (by simp [beN_length]; omega) (beN_length _ _)
    have p8 : ((b ++ t1 ++ (hd ++ beN 2 ((d.length : Nat) : Int) ++ d ++ more)).drop ((b ++ t1).length + 8)).take 2 = beN 2 ((d.length : Nat) : Int) := by
      rw [show b ++ t1 ++ (hd ++ beN 2 ((d.length : Nat) : Int) ++ d ++ more) = (b ++ t1 ++ hd) ++ (beN 2 ((d.length : Nat) : Int) ++ (d ++ more)) by simp]
      exact part_at (by rw [List.length_append, hhl]) (beN_length _ _)
    have q0 : beNat (beN 2 r.type) = ty := by rw [hty]; exact beNat2 htyl
    have q2 : beNat (beN 2 1) = 1 := beNat2 (p := 1) (by decide)
    have q4 : beNat (beN 4 r.ttl) = ttl := by rw [httl]; exact beNat4 (by omega)
    have q8 : beNat (beN 2 ((d.length : Nat) : Int)) = d.length := beNat2 hdl
    have hlen : (b ++ t1 ++ (hd ++ beN 2 ((d.length : Nat) : Int) ++ d ++ more)).length = (b ++ t1).length + 10 + d.length + more.length := by
      simp only [List.length_append, hhl, beN_length]; omega
    rw [readRec_body hrd (by rw [hlen]; omega) (by rw [p2, q2]) (by rw [p8, q8, hlen]; omega), p0, p4, p8, q0, q4, q8, ttlOf_back (by omega)]
    have e1 : b ++ t1 ++ (hd ++ beN 2 ((d.length : Nat) : Int) ++ d ++ more) = b ++ t1 ++ hd ++ [byteOf ((d.length / 256 : Nat) : Int), byteOf ((d.length : Nat) : Int)] ++ d ++ more := by rw [hdl2]; simp
    have e2 : (b ++ t1).length + 10 = (b ++ t1 ++ hd).length + 2 := by simp only [List.length_append, hhl]
    have := hb3 more
    rw [httl] at this
    rw [e1, e2, this, finR]
    rw [if_pos hr.right]
    have e9 : (b ++ t1).length + 10 + d.length = (b ++ (t1 ++ hd ++ beN 2 ((d.length : Nat) : Int) ++ d)).length := by
      simp only [List.length_append, hhl, beN_length]; omega
    rw [← e9, e2]

/-- Records written are read again. -/
theorem recs_back : ∀ (rs : List Rec) (b : List UInt8) (at_ : At), (∀ r ∈ rs, RBack r) → GoodAll b at_ →
    ∃ t, (wrRecs rs (b, at_)).1 = b ++ t ∧ GoodAll (b ++ t) (wrRecs rs (b, at_)).2 ∧ ∀ more, readRecs (b ++ t ++ more) rs.length b.length = some (rs, (b ++ t).length)
  | [], b, at_, _, hg => ⟨[], by simp [wrRecs], by simpa [wrRecs] using hg, fun more => by simp [readRecs]⟩
  | r :: rs, b, at_, hr, hg => by
    obtain ⟨t1, h1, h2, h3⟩ := rec_back (hr r (by simp)) hg
    obtain ⟨at1, hat⟩ : ∃ a, a = (wrRec r (b, at_)).2 := ⟨_, rfl⟩
    have e1 : wrRec r (b, at_) = (b ++ t1, at1) := by rw [hat, ← h1]
    rw [← hat] at h2
    obtain ⟨t2, g1, g2, g3⟩ := recs_back rs (b ++ t1) at1 (fun x hx => hr x (by simp [hx])) h2
    have e2 : wrRecs (r :: rs) (b, at_) = wrRecs rs (b ++ t1, at1) := by
      show wrRecs rs (wrRec r (b, at_)) = _
      rw [e1]
    rw [e2]
    have e3 : b ++ (t1 ++ t2) = b ++ t1 ++ t2 := by simp
    refine ⟨t1 ++ t2, by rw [e3]; exact g1, by rw [e3]; exact g2, fun more => ?_⟩
    have e4 : b ++ (t1 ++ t2) ++ more = b ++ t1 ++ (t2 ++ more) := by simp
    rw [List.length_cons, readRecs, e4, h3 (t2 ++ more)]
    simp only
    have e5 : b ++ t1 ++ (t2 ++ more) = b ++ t1 ++ t2 ++ more := by simp
    rw [e5, g3 more, e3]

/-- What a message must be to come back. -/
structure MBack (m : Msg) : Prop where
  all : allM m = true
  q : (splitL m.qname).length ≤ 16
  r : ∀ r ∈ m.ans ++ m.auth, r.addr.length = 16 ∧ (splitL r.name).length ≤ 16 ∧ (splitL r.text).length ≤ 16

theorem flags_back (c : Nat) (hc : c < 16) (a b d : Bool) : flagsTo c [a, b, d] 3 < 65536 ∧ ¬ 0 < flagsTo c [a, b, d] 3 &&& 30720 ∧ decide (0 < flagsTo c [a, b, d] 3 &&& 32768) = a ∧ decide (0 < flagsTo c [a, b, d] 3 &&& 512) = b ∧ decide (0 < flagsTo c [a, b, d] 3 &&& 256) = d ∧ flagsTo c [a, b, d] 3 &&& 15 = c := by
  have key : ∀ c : Fin 16, ∀ a b d : Bool, flagsTo c.val [a, b, d] 3 < 65536 ∧ ¬ 0 < flagsTo c.val [a, b, d] 3 &&& 30720 ∧ decide (0 < flagsTo c.val [a, b, d] 3 &&& 32768) = a ∧ decide (0 < flagsTo c.val [a, b, d] 3 &&& 512) = b ∧ decide (0 < flagsTo c.val [a, b, d] 3 &&& 256) = d ∧ flagsTo c.val [a, b, d] 3 &&& 15 = c.val := by decide
  exact key ⟨c, hc⟩ a b d

theorem all_parts {m : Msg} (h : allM m = true) : 0 ≤ m.id ∧ m.id ≤ 65535 ∧ 0 ≤ m.code ∧ m.code ≤ 15 ∧ namesL m.qname = true ∧ 1 ≤ m.qtype ∧ m.qtype ≤ 65535 ∧ m.ans.length + m.auth.length ≤ 32 ∧ m.ans.all rightR = true ∧ m.auth.all rightR = true := by
  unfold allM at h
  simp only [Bool.and_eq_true, decide_eq_true_eq] at h
  obtain ⟨⟨⟨⟨⟨⟨⟨⟨⟨h1, h2⟩, h3⟩, h4⟩, h5⟩, h6⟩, h7⟩, h8⟩, h9⟩, h10⟩ := h
  exact ⟨h1, h2, h3, h4, h5, h6, h7, h8, h9, h10⟩

/-- A MESSAGE COMES BACK FROM ITS BYTES, whatever stands behind them. -/
theorem msg_back {m : Msg} (hm : MBack m) (more : List UInt8) : decode (enc m ++ more) = some m := by
  obtain ⟨a1, a2, a3, a4, a5, a6, a7, a8, a9, a10⟩ := all_parts hm.all
  obtain ⟨id, hid⟩ : ∃ n : Nat, m.id = n := ⟨m.id.toNat, by omega⟩
  obtain ⟨code, hcode⟩ : ∃ n : Nat, m.code = n := ⟨m.code.toNat, by omega⟩
  obtain ⟨qt, hqt⟩ : ∃ n : Nat, m.qtype = n := ⟨m.qtype.toNat, by omega⟩
  obtain ⟨f1, f2, f3, f4, f5, f6⟩ := flags_back code (by omega) m.reply m.trunc m.recur
  have hct : m.code.toNat = code := by rw [hcode]; rfl
  obtain ⟨fl, hfl⟩ : ∃ f, f = flagsTo code [m.reply, m.trunc, m.recur] 3 := ⟨_, rfl⟩
  rw [← hfl] at f1 f2 f3 f4 f5 f6
  obtain ⟨hd, hhd⟩ : ∃ hd, hd = (headNums m).flatMap (beN 2) := ⟨_, rfl⟩
  have hh6 : hd = beN 2 ((id : Nat) : Int) ++ (beN 2 ((fl : Nat) : Int) ++ (beN 2 ((1 : Nat) : Int) ++ (beN 2 ((m.ans.length : Nat) : Int) ++ (beN 2 ((m.auth.length : Nat) : Int) ++ beN 2 0)))) := by
    rw [hhd]
    unfold headNums
    rw [hct, ← hfl, hid]
    simp
  have hhl : hd.length = 12 := by rw [hh6]; simp [beN_length]
  obtain ⟨t1, h1, h2, h3⟩ := name_reads (s := m.qname) (b := hd) (at_ := []) a5 hm.q (fun e he => by cases he)
  obtain ⟨at1, hat⟩ : ∃ a, a = (wrName m.qname (hd, [])).2 := ⟨_, rfl⟩
  rw [← hat] at h2
  obtain ⟨q, hq⟩ : ∃ q, q = beN 2 m.qtype ++ beN 2 1 := ⟨_, rfl⟩
  have hql : q.length = 4 := by rw [hq]; simp [beN_length]
  have hrb : ∀ r ∈ m.ans ++ m.auth, RBack r := by
    intro r hr
    obtain ⟨g1, g2, g3⟩ := hm.r r hr
    refine ⟨?_, g1, g2, g3⟩
    rcases List.mem_append.1 hr with h | h
    · exact List.all_eq_true.1 a9 r h
    · exact List.all_eq_true.1 a10 r h
  obtain ⟨t2, g1, g2, g3⟩ := recs_back m.ans (hd ++ t1 ++ q) at1 (fun r hr => hrb r (by simp [hr])) (h2.app q)
  obtain ⟨at2, hat2⟩ : ∃ a, a = (wrRecs m.ans (hd ++ t1 ++ q, at1)).2 := ⟨_, rfl⟩
  rw [← hat2] at g2
  obtain ⟨t3, k1, k2, k3⟩ := recs_back m.auth (hd ++ t1 ++ q ++ t2) at2 (fun r hr => hrb r (by simp [hr])) g2
  have henc : enc m = hd ++ t1 ++ q ++ t2 ++ t3 := by
    rw [enc_eq (st1 := (hd ++ t1 ++ q, at1)) (by rw [← hhd, hat, h1, hq]; simp)]
    have : wrRecs m.ans (hd ++ t1 ++ q, at1) = (hd ++ t1 ++ q ++ t2, at2) := by rw [hat2, ← g1]
    rw [this, k1]
  rw [henc]
  obtain ⟨rest, hrest⟩ : ∃ r, r = q ++ t2 ++ t3 ++ more := ⟨_, rfl⟩
  have e1 : hd ++ t1 ++ q ++ t2 ++ t3 ++ more = hd ++ t1 ++ rest := by rw [hrest]; simp
  have hlen : (hd ++ t1 ++ q ++ t2 ++ t3 ++ more).length = 12 + t1.length + 4 + t2.length + t3.length + more.length := by
    simp only [List.length_append, hhl, hql]
  have pid : ((hd ++ t1 ++ rest).drop 0).take 2 = beN 2 ((id : Nat) : Int) := by
    rw [show hd ++ t1 ++ rest = [] ++ (beN 2 ((id : Nat) : Int) ++ (beN 2 ((fl : Nat) : Int) ++ (beN 2 ((1 : Nat) : Int) ++ (beN 2 ((m.ans.length : Nat) : Int) ++ (beN 2 ((m.auth.length : Nat) : Int) ++ beN 2 0))) ++ t1 ++ rest)) by rw [hh6]; simp]
    exact part_at rfl (beN_length _ _)
  have pfl : ((hd ++ t1 ++ rest).drop 2).take 2 = beN 2 ((fl : Nat) : Int) := by
    rw [show hd ++ t1 ++ rest = beN 2 ((id : Nat) : Int) ++ (beN 2 ((fl : Nat) : Int) ++ (beN 2 ((1 : Nat) : Int) ++ (beN 2 ((m.ans.length : Nat) : Int) ++ (beN 2 ((m.auth.length : Nat) : Int) ++ beN 2 0)) ++ t1 ++ rest)) by rw [hh6]; simp]
    exact part_at (beN_length _ _) (beN_length _ _)
  have p1 : ((hd ++ t1 ++ rest).drop 4).take 2 = beN 2 ((1 : Nat) : Int) := by
    rw [show hd ++ t1 ++ rest = (beN 2 ((id : Nat) : Int) ++ beN 2 ((fl : Nat) : Int)) ++ (beN 2 ((1 : Nat) : Int) ++ (beN 2 ((m.ans.length : Nat) : Int) ++ (beN 2 ((m.auth.length : Nat) : Int) ++ beN 2 0) ++ t1 ++ rest)) by rw [hh6]; simp]
    exact part_at (by simp [beN_length]) (beN_length _ _)
  have pn : ((hd ++ t1 ++ rest).drop 6).take 2 = beN 2 ((m.ans.length : Nat) : Int) := by
    rw [show hd ++ t1 ++ rest = (beN 2 ((id : Nat) : Int) ++ beN 2 ((fl : Nat) : Int) ++ beN 2 ((1 : Nat) : Int)) ++ (beN 2 ((m.ans.length : Nat) : Int) ++ (beN 2 ((m.auth.length : Nat) : Int) ++ beN 2 0 ++ t1 ++ rest)) by rw [hh6]; simp]
    exact part_at (by simp [beN_length]) (beN_length _ _)
  have pu : ((hd ++ t1 ++ rest).drop 8).take 2 = beN 2 ((m.auth.length : Nat) : Int) := by
    rw [show hd ++ t1 ++ rest = (beN 2 ((id : Nat) : Int) ++ beN 2 ((fl : Nat) : Int) ++ beN 2 ((1 : Nat) : Int) ++ beN 2 ((m.ans.length : Nat) : Int)) ++ (beN 2 ((m.auth.length : Nat) : Int) ++ (beN 2 0 ++ t1 ++ rest)) by rw [hh6]; simp]
    exact part_at (by simp [beN_length]) (beN_length _ _)
  have pq : ((hd ++ t1 ++ rest).drop (12 + t1.length)).take 2 = beN 2 ((qt : Nat) : Int) := by
    rw [show hd ++ t1 ++ rest = (hd ++ t1) ++ (beN 2 ((qt : Nat) : Int) ++ (beN 2 1 ++ t2 ++ t3 ++ more)) by rw [hrest, hq, hqt]; simp]
    exact part_at (by simp [hhl]) (beN_length _ _)
  have pc : ((hd ++ t1 ++ rest).drop (12 + t1.length + 2)).take 2 = beN 2 ((1 : Nat) : Int) := by
    rw [show hd ++ t1 ++ rest = (hd ++ t1 ++ beN 2 ((qt : Nat) : Int)) ++ (beN 2 ((1 : Nat) : Int) ++ (t2 ++ t3 ++ more)) by rw [hrest, hq, hqt]; simp]
    exact part_at (by simp [hhl, beN_length]; omega) (beN_length _ _)
  have hn : rdName (hd ++ t1 ++ rest) 300 12 0 0 [] 12 = some (m.qname, 12 + t1.length) := by
    have := h3 rest
    rw [hhl, show (hd ++ t1).length = 12 + t1.length by simp [hhl]] at this
    exact this
  have hra : readRecs (hd ++ t1 ++ rest) m.ans.length (12 + t1.length + 4) = some (m.ans, 12 + t1.length + 4 + t2.length) := by
    have := g3 (t3 ++ more)
    rw [show (hd ++ t1 ++ q).length = 12 + t1.length + 4 by simp [hhl, hql]; omega, show (hd ++ t1 ++ q ++ t2).length = 12 + t1.length + 4 + t2.length by simp [hhl, hql]; omega, show hd ++ t1 ++ q ++ t2 ++ (t3 ++ more) = hd ++ t1 ++ rest by rw [hrest]; simp] at this
    exact this
  have hru : ∃ e, readRecs (hd ++ t1 ++ rest) m.auth.length (12 + t1.length + 4 + t2.length) = some (m.auth, e) := by
    have := k3 more
    rw [show (hd ++ t1 ++ q ++ t2).length = 12 + t1.length + 4 + t2.length by simp [hhl, hql]; omega, e1] at this
    exact ⟨_, this⟩
  obtain ⟨e, hru⟩ := hru
  rw [e1] at hlen ⊢
  unfold decode
  rw [List.drop_zero] at pid
  rw [if_neg (by omega), pid, pfl, p1, pn, pu, beNat2 (p := id) (by omega), beNat2 f1, beNat2 (p := 1) (by omega), beNat2 (p := m.ans.length) (by omega), beNat2 (p := m.auth.length) (by omega), if_neg f2, if_neg (by simp), if_neg (by omega), hn]
  simp only
  rw [if_neg (by omega), pc, beNat2 (p := 1) (by omega), if_neg (by simp), hra]
  simp only
  rw [hru]
  simp only
  rw [pq, beNat2 (p := qt) (by omega), f3, f4, f5, f6]
  have : (⟨((id : Nat) : Int), m.reply, m.trunc, m.recur, ((code : Nat) : Int), m.qname, ((qt : Nat) : Int), m.ans, m.auth⟩ : Msg) = m := by
    obtain ⟨i, a, b, c, d, e, f, g, h⟩ := m
    simp only at hid hcode hqt
    subst hid hcode hqt
    rfl
  rw [this, finM, if_pos hm.all]
end Go.Proofs.YthcpjcgjmdfpjaaDoor

namespace Go.Proofs.YthcpjcgjmdfpjaaDoor
open Go Go.ChangeShapes Go.WideShapes Go.ChangeAt Go.RowKit
set_option maxRecDepth 100000

theorem u8_of {n : Int} (h : (Lit.int .u8 n).wf = true) : 0 ≤ n ∧ n < 256 := by
  have h1 : decide (IntKind.u8.min ≤ n) && decide (n ≤ IntKind.u8.max) = true := by first | exact h | (simp [Lit.wf] at h ⊢; exact h)
  simp only [Bool.and_eq_true, decide_eq_true_eq] at h1
  have e1 : IntKind.u8.min = 0 := by kernel_rfl
  have e2 : IntKind.u8.max = 255 := by kernel_rfl
  omega
theorem open_bytes {H : Type} {enc : TypeId × Value → H} {W : World} {base : Nat} {v : Value} {d : DataW H} {p : List MemPlace} (hval : Value.okWide Tryd.prog W .any base 36 v) (hd : DataW.Trod enc Tryd.prog W 0 (fun _ => true) true 36 v d p) :
    ∃ A m c bs, v = .slice A m c ∧ Src W A m c bs ∧ (∀ g o, A = some ⟨g, o, none⟩ → g < W.heap.size) := by
  obtain ⟨a0, len, cap, rfl⟩ := okWide_slice Tryd.underlying36 hval
  obtain ⟨fuel, hf⟩ := hd
  rcases open_ints Tryd.underlying36 Tryd.underlying5 (by kernel_rfl) hf with ⟨h1, _⟩ | ⟨a, len', cap', zs, h1, _, hl, hm, hzl, _, hcell, hwf⟩
  · have h2 : (Value.slice a0 len cap).cells.toList = [.slice a0 len cap] := rfl
    rw [h2] at h1
    injection h1 with h1 _
    injection h1 with e1 e2 e3
    subst e1 e2 e3
    exact ⟨none, 0, 0, [], rfl, ⟨rfl, Nat.le_refl _, fun h => absurd rfl h⟩, fun g o h => by cases h⟩
  · have h2 : (Value.slice a0 len cap).cells.toList = [.slice a0 len cap] := rfl
    rw [h2] at h1
    injection h1 with h1 _
    injection h1 with e1 e2 e3
    subst e1 e2 e3
    simp only [if_true] at hzl
    refine ⟨some a, len, cap, (zs.take len).map fun z => UInt8.ofNat z.toNat, rfl, ⟨by simp [hzl]; omega, hl, fun h => ?_⟩, fun g o h => ?_⟩
    · have h0 := hcell 0 (by omega)
      obtain ⟨b, off, spot⟩ := a
      have hspot : spot = none := by simpa [Addr.add] using World.cell?_spot h0
      subst hspot
      refine ⟨b, off, rfl, fun j x hj => ?_⟩
      rw [List.getElem?_map] at hj
      obtain ⟨z, hz, rfl⟩ := Option.map_eq_some_iff.1 hj
      have hjl : j < len := by
        have := (List.getElem?_eq_some_iff.1 hz).1
        simp at this; omega
      rw [List.getElem?_take_of_lt hjl] at hz
      have hc := hcell j (by omega)
      have hw := u8_of (hwf z (List.mem_of_getElem? hz))
      have e : zs.getD j 0 = z := by rw [List.getD, hz]; rfl
      rw [e] at hc
      have e2 : u8v (UInt8.ofNat z.toNat) = .int .u8 z := by
        unfold u8v
        congr 1
        rw [UInt8.toNat_ofNat']
        omega
      rw [e2]
      have e3 : (⟨b, off, none⟩ : Addr).add j = ⟨b, off + j, none⟩ := by
        by_cases hj0 : j = 0 <;> simp [Addr.add, hj0]
      rw [e3] at hc
      exact hc
    · unfold Value.okWide at hval
      rw [Tryd.underlying36] at hval
      simp only [Cell.okWide, Tryd.underlying36, Cell.ok] at hval
      injection h with h
      subst h
      obtain ⟨_, _, _, _, row, cells, hsh, _⟩ := hval
      unfold World.shape? at hsh
      by_cases hlt : g < W.heap.size
      · exact hlt
      · rw [Array.getElem?_eq_none (Nat.le_of_not_lt hlt)] at hsh; cases hsh
end Go.Proofs.YthcpjcgjmdfpjaaDoor

namespace Go.Proofs.YthcpjcgjmdfpjaaDoor
open Go Go.ChangeShapes Go.WideShapes Go.ChangeAt Go.RowKit
set_option maxRecDepth 100000

theorem take1_at {α : Type} {cs : List α} {i : Nat} {v : α} (h : (cs.drop i).take 1 = [v]) : cs[i]? = some v := by
  have := congrArg (fun l => l[0]?) h
  simpa [List.getElem?_take, List.getElem?_drop] using this
theorem map_of {α : Type} (f : α → Value) (cs : List Value) (h : ∀ (i : Nat) v, cs[i]? = some v → ∃ a, v = f a) : ∃ l : List α, cs = l.map f := by
  induction cs with
  | nil => exact ⟨[], rfl⟩
  | cons v vs ih =>
    obtain ⟨a, rfl⟩ := h 0 v rfl
    obtain ⟨l, rfl⟩ := ih (fun i u hu => h (i + 1) u (by simpa using hu))
    exact ⟨a :: l, rfl⟩
theorem choose_list {α : Type} (Q : Nat → α → Prop) : ∀ (n : Nat), (∀ i, i < n → ∃ a, Q i a) → ∃ l : List α, l.length = n ∧ ∀ i a, l[i]? = some a → Q i a
  | 0, _ => ⟨[], rfl, fun i a h => by simp at h⟩
  | n + 1, h => by
    obtain ⟨l, hl, hq⟩ := choose_list Q n (fun i hi => h i (by omega))
    obtain ⟨a, ha⟩ := h n (by omega)
    refine ⟨l ++ [a], by simp [hl], fun i b hb => ?_⟩
    by_cases hi : i < n
    · rw [List.getElem?_append_left (by omega)] at hb; exact hq i b hb
    · have : i = n := by
        have := (List.getElem?_eq_some_iff.1 hb).1
        simp at this; omega
      subst this
      rw [List.getElem?_append_right (by omega), hl] at hb
      simp at hb; subst hb; exact ha
theorem i64_of {n : Int} (h : (Lit.int .i64 n).wf = true) : -9223372036854775808 ≤ n ∧ n ≤ 9223372036854775807 := bounds_i64 h

section
variable {H : Type} {enc : TypeId × Value → H} {W : World} {B : Nat} {sp : Nat → Bool} {hd : Bool} {fuel : Nat} {cs : List Value} {x : DataW H × List MemPlace}

theorem trod_arr1 {α : Type} (f : α → Value) {t n e : Nat} (ht : Tryd.prog.underlying t = some (.array n e)) (hc : Tryd.prog.cellsOf t = n) (he : Tryd.prog.cellsOf e = 1) (hone : ∀ fuel cs x, DataW.trod enc Tryd.prog W B sp hd fuel e cs = some x → ∃ a, cs = [f a]) (h : DataW.trod enc Tryd.prog W B sp hd fuel t cs = some x) : ∃ l : List α, cs = l.map f ∧ l.length = n := by
  obtain ⟨xs, m, _, _, hl, hxl, hel⟩ := DataW.trod_array ht h
  rw [hc] at hl
  have key : ∀ i, i < n → ∃ a, cs[i]? = some (f a) := by
    intro i hi
    have h1 := hel i hi
    rw [he, Nat.mul_one, List.getElem?_eq_getElem (by omega)] at h1
    obtain ⟨a, ha⟩ := hone _ _ _ h1
    exact ⟨a, take1_at ha⟩
  obtain ⟨l, hl2⟩ := map_of f cs (fun i v hv => by
    have hi := (List.getElem?_eq_some_iff.1 hv).1
    obtain ⟨a, ha⟩ := key i (by omega)
    rw [hv] at ha
    exact ⟨a, Option.some.inj ha⟩)
  exact ⟨l, hl2, by rw [hl2, List.length_map] at hl; exact hl⟩
theorem one_u8 : ∀ fuel cs x, DataW.trod enc Tryd.prog W B sp hd fuel 5 cs = some x → ∃ b : UInt8, cs = [u8v b] := by
  intro fuel cs x h
  obtain ⟨z, rfl, _, hw⟩ := DataW.trod_int Tryd.underlying5 h
  have := u8_of hw
  refine ⟨UInt8.ofNat z.toNat, ?_⟩
  unfold u8v
  congr 2
  rw [UInt8.toNat_ofNat']
  omega
theorem one_bool : ∀ fuel cs x, DataW.trod enc Tryd.prog W B sp hd fuel 4 cs = some x → ∃ b : Bool, cs = [.bool b] := by
  intro fuel cs x h
  obtain ⟨b, rfl, _⟩ := DataW.trod_bool Tryd.underlying4 h
  exact ⟨b, rfl⟩
/-- A whole number that fits. -/
def I64 (n : Int) : Prop := -9223372036854775808 ≤ n ∧ n ≤ 9223372036854775807
theorem one_int : ∀ fuel cs x, DataW.trod enc Tryd.prog W B sp hd fuel 3 cs = some x → ∃ n : Int, cs = [.int .i64 n] ∧ I64 n := by
  intro fuel cs x h
  obtain ⟨z, rfl, _, hw⟩ := DataW.trod_int Tryd.underlying3 h
  exact ⟨z, rfl, i64_of hw⟩
theorem one_str : ∀ fuel cs x, DataW.trod enc Tryd.prog W B sp hd fuel 9 cs = some x → ∃ s : List UInt8, cs = [sv s] ∧ s.length ≤ maxLen := by
  intro fuel cs x h
  obtain ⟨s, rfl, _, hw⟩ := DataW.trod_string Tryd.underlying9 h
  exact ⟨s.data.toList, by rw [sv_of], Nat.le_trans (Nat.le_of_eq Array.length_toList) hw⟩
theorem trod_addr (h : DataW.trod enc Tryd.prog W B sp hd fuel 27 cs = some x) : ∃ bs : List UInt8, cs = bs.map u8v ∧ bs.length = 16 :=
  trod_arr1 u8v Tryd.underlying27 (by kernel_rfl) (by kernel_rfl) one_u8 h

/-- A field's cells. -/
theorem field_of {t : Nat} {fs : Array Field} (ht : Tryd.prog.underlying t = some (.struct fs)) (h : DataW.trod enc Tryd.prog W B sp hd fuel t cs = some x) (i : Nat) {f : Field} (hf : fs[i]? = some f) {o ty n : Nat} (ho : f.offset = o) (hty : f.type = ty) (hn : Tryd.prog.cellsOf ty = n) :
    ∃ fuel y, DataW.trod enc Tryd.prog W B sp hd fuel ty ((cs.drop o).take n) = some y := by
  obtain ⟨xs, m, _, _, _, hxl, hel⟩ := DataW.trod_struct ht h
  have h1 := hel i f hf
  rw [ho, hty, hn] at h1
  have hi : i < fs.size := by
    have := (Array.getElem?_eq_some_iff.1 hf).1; exact this
  rw [List.getElem?_eq_getElem (by omega)] at h1
  exact ⟨m, _, h1⟩
theorem struct_len {t : Nat} {fs : Array Field} (ht : Tryd.prog.underlying t = some (.struct fs)) (h : DataW.trod enc Tryd.prog W B sp hd fuel t cs = some x) : cs.length = Tryd.prog.cellsOf t := by
  obtain ⟨xs, m, _, _, hl, _, _⟩ := DataW.trod_struct ht h
  exact hl
end

/-! ### Seeds, local addresses -/
structure SeedV where
  name : Int
  kind : Int
  ttl : Int
  addr : List UInt8
  data : List UInt8
def SeedV.cells (s : SeedV) : List Value := .int .i64 s.name :: .int .i64 s.kind :: .int .i64 s.ttl :: (s.addr.map u8v ++ [sv s.data])
structure SeedV.Ok (s : SeedV) : Prop where
  a : s.addr.length = 16
  n : I64 s.name
  k : I64 s.kind
  t : I64 s.ttl
  d : s.data.length ≤ maxLen
structure LocalV where
  addr : List UInt8
  p : Bool
  q : Bool
def LocalV.cells (s : LocalV) : List Value := s.addr.map u8v ++ [.bool s.p, .bool s.q]

theorem drop_split {cs : List Value} {k : Nat} {n : Nat} : cs.drop k = (cs.drop k).take n ++ cs.drop (k + n) := by
  rw [← List.drop_drop]; exact (List.take_append_drop n _).symm

section
variable {H : Type} {enc : TypeId × Value → H} {W : World} {B : Nat} {sp : Nat → Bool} {hd : Bool} {fuel : Nat} {cs : List Value} {x : DataW H × List MemPlace}
theorem trod_seed (h : DataW.trod enc Tryd.prog W B sp hd fuel 50 cs = some x) : ∃ s : SeedV, cs = s.cells ∧ s.Ok := by
  have hl := struct_len Tryd.underlying50 h
  rw [show Tryd.prog.cellsOf 50 = 20 by kernel_rfl] at hl
  obtain ⟨_, _, h0⟩ := field_of Tryd.underlying50 h 0 rfl (o := 0) (ty := 3) (n := 1) rfl rfl (by kernel_rfl)
  obtain ⟨_, _, h1⟩ := field_of Tryd.underlying50 h 1 rfl (o := 1) (ty := 3) (n := 1) rfl rfl (by kernel_rfl)
  obtain ⟨_, _, h2⟩ := field_of Tryd.underlying50 h 2 rfl (o := 2) (ty := 3) (n := 1) rfl rfl (by kernel_rfl)
  obtain ⟨_, _, h3⟩ := field_of Tryd.underlying50 h 3 rfl (o := 3) (ty := 27) (n := 16) rfl rfl (by kernel_rfl)
  obtain ⟨_, _, h4⟩ := field_of Tryd.underlying50 h 4 rfl (o := 19) (ty := 9) (n := 1) rfl rfl (by kernel_rfl)
  obtain ⟨a, e0, b0⟩ := one_int _ _ _ h0
  obtain ⟨b, e1, b1⟩ := one_int _ _ _ h1
  obtain ⟨c, e2, b2⟩ := one_int _ _ _ h2
  obtain ⟨d, e3, b3⟩ := trod_addr h3
  obtain ⟨e, e4, b4⟩ := one_str _ _ _ h4
  refine ⟨⟨a, b, c, d, e⟩, ?_, b3, b0, b1, b2, b4⟩
  have hz : cs.drop 20 = [] := List.drop_eq_nil_of_le (by omega)
  have s0 := drop_split (cs := cs) (k := 0) (n := 1)
  have s1 := drop_split (cs := cs) (k := 1) (n := 1)
  have s2 := drop_split (cs := cs) (k := 2) (n := 1)
  have s3 := drop_split (cs := cs) (k := 3) (n := 16)
  have s4 := drop_split (cs := cs) (k := 19) (n := 1)
  simp only [Nat.zero_add, Nat.reduceAdd] at s0 s1 s2 s3 s4
  rw [e0, s1, e1, s2, e2, s3, e3, s4, e4, hz, List.drop_zero] at s0
  rw [s0]; rfl
theorem trod_local (h : DataW.trod enc Tryd.prog W B sp hd fuel 70 cs = some x) : ∃ s : LocalV, cs = s.cells ∧ s.addr.length = 16 := by
  have hl := struct_len Tryd.underlying70 h
  rw [show Tryd.prog.cellsOf 70 = 18 by kernel_rfl] at hl
  obtain ⟨_, _, h0⟩ := field_of Tryd.underlying70 h 0 rfl (o := 0) (ty := 27) (n := 16) rfl rfl (by kernel_rfl)
  obtain ⟨_, _, h1⟩ := field_of Tryd.underlying70 h 1 rfl (o := 16) (ty := 4) (n := 1) rfl rfl (by kernel_rfl)
  obtain ⟨_, _, h2⟩ := field_of Tryd.underlying70 h 2 rfl (o := 17) (ty := 4) (n := 1) rfl rfl (by kernel_rfl)
  obtain ⟨a, e0, b0⟩ := trod_addr h0
  obtain ⟨b, e1⟩ := one_bool _ _ _ h1
  obtain ⟨c, e2⟩ := one_bool _ _ _ h2
  refine ⟨⟨a, b, c⟩, ?_, b0⟩
  have hz : cs.drop 18 = [] := List.drop_eq_nil_of_le (by omega)
  have s0 := drop_split (cs := cs) (k := 0) (n := 16)
  have s1 := drop_split (cs := cs) (k := 16) (n := 1)
  have s2 := drop_split (cs := cs) (k := 17) (n := 1)
  simp only [Nat.zero_add, Nat.reduceAdd] at s0 s1 s2
  rw [e0, s1, e1, s2, e2, hz, List.drop_zero] at s0
  rw [s0]; rfl
theorem trod_rec (h : DataW.trod enc Tryd.prog W B sp hd fuel 57 cs = some x) : ∃ r : Rec, cs = r.cells ∧ (r.addr.length = 16 ∧ I64 r.type ∧ I64 r.ttl ∧ r.name.length ≤ maxLen ∧ r.text.length ≤ maxLen ∧ r.data.length ≤ maxLen) := by
  have hl := struct_len Tryd.underlying57 h
  rw [show Tryd.prog.cellsOf 57 = 21 by kernel_rfl] at hl
  obtain ⟨_, _, h0⟩ := field_of Tryd.underlying57 h 0 rfl (o := 0) (ty := 9) (n := 1) rfl rfl (by kernel_rfl)
  obtain ⟨_, _, h1⟩ := field_of Tryd.underlying57 h 1 rfl (o := 1) (ty := 3) (n := 1) rfl rfl (by kernel_rfl)
  obtain ⟨_, _, h2⟩ := field_of Tryd.underlying57 h 2 rfl (o := 2) (ty := 3) (n := 1) rfl rfl (by kernel_rfl)
  obtain ⟨_, _, h3⟩ := field_of Tryd.underlying57 h 3 rfl (o := 3) (ty := 27) (n := 16) rfl rfl (by kernel_rfl)
  obtain ⟨_, _, h4⟩ := field_of Tryd.underlying57 h 4 rfl (o := 19) (ty := 9) (n := 1) rfl rfl (by kernel_rfl)
  obtain ⟨_, _, h5⟩ := field_of Tryd.underlying57 h 5 rfl (o := 20) (ty := 9) (n := 1) rfl rfl (by kernel_rfl)
  obtain ⟨a, e0, b0⟩ := one_str _ _ _ h0
  obtain ⟨b, e1, b1⟩ := one_int _ _ _ h1
  obtain ⟨c, e2, b2⟩ := one_int _ _ _ h2
  obtain ⟨d, e3, b3⟩ := trod_addr h3
  obtain ⟨e, e4, b4⟩ := one_str _ _ _ h4
  obtain ⟨f, e5, b5⟩ := one_str _ _ _ h5
  refine ⟨⟨a, b, c, d, e, f⟩, ?_, b3, b1, b2, b0, b4, b5⟩
  have hz : cs.drop 21 = [] := List.drop_eq_nil_of_le (by omega)
  have s0 := drop_split (cs := cs) (k := 0) (n := 1)
  have s1 := drop_split (cs := cs) (k := 1) (n := 1)
  have s2 := drop_split (cs := cs) (k := 2) (n := 1)
  have s3 := drop_split (cs := cs) (k := 3) (n := 16)
  have s4 := drop_split (cs := cs) (k := 19) (n := 1)
  have s5 := drop_split (cs := cs) (k := 20) (n := 1)
  simp only [Nat.zero_add, Nat.reduceAdd] at s0 s1 s2 s3 s4 s5
  rw [e0, s1, e1, s2, e2, s3, e3, s4, e4, s5, e5, hz, List.drop_zero] at s0
  rw [s0]; rfl

/-- A slice of things of several cells that one may read. -/
def Sl {α : Type} (cells : α → List Value) (n : Nat) (w : World) (A : Option Addr) (m : Nat) (l : List α) : Prop :=
  l.length = m ∧ (m ≠ 0 → ∃ g o, A = some ⟨g, o, none⟩ ∧ ∀ (j : Nat) a (i : Nat) u, l[j]? = some a → (cells a)[i]? = some u → w.cell? ⟨g, o + j * n + i, none⟩ = some u)
theorem Sl.kept {α : Type} {cells : α → List Value} {n : Nat} {w w' : World} {A : Option Addr} {m : Nat} {l : List α} (h : Sl cells n w A m l) (hc : Chg (fun _ => False) w w') : Sl cells n w' A m l := by
  refine ⟨h.1, fun h0 => ?_⟩
  obtain ⟨g, o, hA, hcell⟩ := h.2 h0
  exact ⟨g, o, hA, fun j a i u hj hi => cell_chg hc (hcell j a i u hj hi) (fun e => e)⟩
theorem trod_slOf {α : Type} {cells : α → List Value} {Q : α → Prop} {t e n : Nat} (ht : Tryd.prog.underlying t = some (.slice e)) (hn : Tryd.prog.cellsOf e = n) (hn0 : 0 < n)
    (hone : ∀ fuel cs x, DataW.trod enc Tryd.prog W B sp hd fuel e cs = some x → ∃ a, cs = cells a ∧ Q a) (h : DataW.trod enc Tryd.prog W B sp hd fuel t cs = some x) :
    ∃ A m c l, cs = [.slice A m c] ∧ m ≤ c ∧ c ≤ maxLen ∧ Sl cells n W A m l ∧ ∀ a ∈ l, Q a := by
  rcases DataW.trod_slice ht h with ⟨rfl, _⟩ | ⟨a, len, cap, elems, rest, fu, _, rfl, _, _, hl, hm, hel, hcell, _, _⟩
  · exact ⟨none, 0, 0, [], rfl, Nat.le_refl _, by simp [maxLen], ⟨rfl, fun h => absurd rfl h⟩, fun a h => by cases h⟩
  · rw [hn] at hcell
    obtain ⟨l, hll, hq⟩ := choose_list (fun i (b : α) => Q b ∧ (cells b).length = n ∧ ∀ k u, (cells b)[k]? = some u → W.cell? ((a.add (i * n)).add k) = some u) len (fun i hi => by
      have h1 := hcell i hi
      rw [List.getElem?_eq_getElem (by omega), Option.bind_eq_some_iff] at h1
      obtain ⟨cs', h2, h3⟩ := h1
      obtain ⟨b, rfl, hqb⟩ := hone _ _ _ h3
      obtain ⟨_, hlen, hc⟩ := World.cells?_some h2
      exact ⟨b, hqb, hlen, fun k u hk => by
        have := (List.getElem?_eq_some_iff.1 hk).1
        rw [hc k (by omega), hk]⟩)
    refine ⟨some a, len, cap, l, rfl, hl, hm, ⟨hll, fun h0 => ?_⟩, fun b hb => ?_⟩
    · obtain ⟨b0, hb0⟩ : ∃ b, l[0]? = some b := ⟨l[0]'(by omega), List.getElem?_eq_getElem (by omega)⟩
      obtain ⟨_, hbl, hc0⟩ := hq 0 b0 hb0
      obtain ⟨u0, hu0⟩ : ∃ u, (cells b0)[0]? = some u := ⟨(cells b0)[0]'(by omega), List.getElem?_eq_getElem (by omega)⟩
      have h00 := hc0 0 u0 hu0
      obtain ⟨g, o, spot⟩ := a
      have hspot : spot = none := by simpa [Addr.add] using World.cell?_spot h00
      subst hspot
      refine ⟨g, o, rfl, fun j b i u hj hi => ?_⟩
      have := (hq j b hj).2.2 i u hi
      rwa [Addr.add_none, Addr.add_none] at this
    · obtain ⟨i, hi⟩ := List.getElem?_of_mem hb
      exact (hq i b hi).1
end

/-! ### Whole arguments -/
section
variable {H : Type} {enc : TypeId × Value → H} {W : World} {base : Nat} {v : Value} {d : DataW H} {p : List MemPlace} {sp : Nat → Bool}
theorem agg_of {t : Nat} {dd : TypeDesc} (ht : Tryd.prog.underlying t = some dd) (hd : isAggD dd = true) (hval : Value.okWide Tryd.prog W .any base t v) : ∃ cs, v = .agg cs := by
  unfold Value.okWide at hval
  rw [ht] at hval
  cases dd <;> first | (obtain ⟨cs, h, _⟩ := hval; exact ⟨cs, h⟩) | cases hd
theorem arr_list {cs : Array Value} {l : List Value} (h : (Value.agg cs).cells.toList = l) : cs = l.toArray := by
  have : cs.toList = l := h
  rw [← this]
theorem open_addr (hval : Value.okWide Tryd.prog W .any base 27 v) (hd : DataW.Trod enc Tryd.prog W 0 sp true 27 v d p) : ∃ bs : List UInt8, v = .agg (bs.map u8v).toArray ∧ bs.length = 16 := by
  obtain ⟨cs, rfl⟩ := agg_of Tryd.underlying27 rfl hval
  obtain ⟨fuel, hf⟩ := hd
  obtain ⟨bs, h1, h2⟩ := trod_addr hf
  exact ⟨bs, by rw [arr_list h1], h2⟩
theorem open_seed (hval : Value.okWide Tryd.prog W .any base 50 v) (hd : DataW.Trod enc Tryd.prog W 0 sp true 50 v d p) : ∃ s : SeedV, v = .agg s.cells.toArray ∧ s.Ok := by
  obtain ⟨cs, rfl⟩ := agg_of Tryd.underlying50 rfl hval
  obtain ⟨fuel, hf⟩ := hd
  obtain ⟨bs, h1, h2⟩ := trod_seed hf
  exact ⟨bs, by rw [arr_list h1], h2⟩
theorem open_rec (hval : Value.okWide Tryd.prog W .any base 57 v) (hd : DataW.Trod enc Tryd.prog W 0 sp true 57 v d p) : ∃ r : Rec, v = r.val ∧ (r.addr.length = 16 ∧ I64 r.type ∧ I64 r.ttl ∧ r.name.length ≤ maxLen ∧ r.text.length ≤ maxLen ∧ r.data.length ≤ maxLen) := by
  obtain ⟨cs, rfl⟩ := agg_of Tryd.underlying57 rfl hval
  obtain ⟨fuel, hf⟩ := hd
  obtain ⟨bs, h1, h2⟩ := trod_rec hf
  exact ⟨bs, by rw [arr_list h1]; rfl, h2⟩
theorem open_slOf {α : Type} {cells : α → List Value} {Q : α → Prop} {t e n : Nat} (ht : Tryd.prog.underlying t = some (.slice e)) (hn : Tryd.prog.cellsOf e = n) (hn0 : 0 < n)
    (hone : ∀ fuel cs x, DataW.trod enc Tryd.prog W 0 sp true fuel e cs = some x → ∃ a, cs = cells a ∧ Q a) (hval : Value.okWide Tryd.prog W .any base t v) (hd : DataW.Trod enc Tryd.prog W 0 sp true t v d p) :
    ∃ A m c l, v = .slice A m c ∧ m ≤ c ∧ c ≤ maxLen ∧ Sl cells n W A m l ∧ ∀ a ∈ l, Q a := by
  obtain ⟨a0, len, cap, rfl⟩ := okWide_slice ht hval
  obtain ⟨fuel, hf⟩ := hd
  obtain ⟨A, m, c, l, h1, h2⟩ := trod_slOf ht hn hn0 hone hf
  have h3 : (Value.slice a0 len cap).cells.toList = [.slice a0 len cap] := rfl
  rw [h3] at h1
  exact ⟨A, m, c, l, by injection h1, h2⟩
theorem open_seeds (hval : Value.okWide Tryd.prog W .any base 48 v) (hd : DataW.Trod enc Tryd.prog W 0 sp true 48 v d p) :
    ∃ A m c l, v = .slice A m c ∧ m ≤ c ∧ c ≤ maxLen ∧ Sl SeedV.cells 20 W A m l ∧ ∀ s ∈ l, s.Ok :=
  open_slOf Tryd.underlying48 (by kernel_rfl) (by decide) (fun _ _ _ h => trod_seed h) hval hd
theorem open_locals (hval : Value.okWide Tryd.prog W .any base 63 v) (hd : DataW.Trod enc Tryd.prog W 0 sp true 63 v d p) :
    ∃ A m c l, v = .slice A m c ∧ m ≤ c ∧ c ≤ maxLen ∧ Sl LocalV.cells 18 W A m l ∧ ∀ s ∈ l, s.addr.length = 16 :=
  open_slOf Tryd.underlying63 (by kernel_rfl) (by decide) (fun _ _ _ h => trod_local h) hval hd
theorem open_bool7 (hval : Value.okWide Tryd.prog W .any base 22 v) (hd : DataW.Trod enc Tryd.prog W 0 sp true 22 v d p) : ∃ l : List Bool, v = .agg (l.map Value.bool).toArray ∧ l.length = 7 := by
  obtain ⟨cs, rfl⟩ := agg_of Tryd.underlying22 rfl hval
  obtain ⟨fuel, hf⟩ := hd
  obtain ⟨bs, h1, h2⟩ := trod_arr1 Value.bool Tryd.underlying22 (by kernel_rfl) (by kernel_rfl) one_bool hf
  exact ⟨bs, by rw [arr_list h1], h2⟩
theorem open_int3 (hval : Value.okWide Tryd.prog W .any base 64 v) (hd : DataW.Trod enc Tryd.prog W 0 sp true 64 v d p) : ∃ l : List Int, v = .agg (l.map (Value.int .i64)).toArray ∧ l.length = 3 := by
  obtain ⟨cs, rfl⟩ := agg_of Tryd.underlying64 rfl hval
  obtain ⟨fuel, hf⟩ := hd
  obtain ⟨bs, h1, h2⟩ := trod_arr1 (Value.int .i64) Tryd.underlying64 (by kernel_rfl) (by kernel_rfl) (fun f cs x h => by obtain ⟨n, h1, _⟩ := one_int f cs x h; exact ⟨n, h1⟩) hf
  exact ⟨bs, by rw [arr_list h1], h2⟩
end
end Go.Proofs.YthcpjcgjmdfpjaaDoor

namespace Go.Proofs.YthcpjcgjmdfpjaaDoor
open Go Go.RowKit
set_option maxRecDepth 100000

theorem wrRecs_length : ∀ (rs : List Rec) (st : List UInt8 × At), (∀ r ∈ rs, r.addr.length = 16 ∧ r.tiny) → (wrRecs rs st).1.length ≤ st.1.length + rs.length * 500000
  | [], st, _ => by simp [wrRecs]
  | r :: rs, st, h => by
    have h1 := wrRec_length r st (h r (by simp)).1
    obtain ⟨_, t1, t2, t3⟩ := h r (by simp)
    have h2 := wrRecs_length rs (wrRec r st) (fun x hx => h x (by simp [hx]))
    have e : wrRecs (r :: rs) st = wrRecs rs (wrRec r st) := rfl
    rw [e, List.length_cons]
    omega
theorem enc_bound {m : Msg} (ht : m.tiny) (h16 : ∀ r ∈ m.ans ++ m.auth, r.addr.length = 16) : (enc m).length ≤ 1000000000 := by
  obtain ⟨hq, hn, hr, _⟩ := ht
  have h1 := wrName_length m.qname ((headNums m).flatMap (beN 2), [])
  have h0 : ((headNums m).flatMap (beN 2)).length = 12 := by simp [headNums, beN_length]
  have h2 := wrRecs_length m.ans ((wrName m.qname ((headNums m).flatMap (beN 2), [])).1 ++ beN 2 m.qtype ++ beN 2 1, (wrName m.qname ((headNums m).flatMap (beN 2), [])).2) (fun r hx => ⟨h16 r (by simp [hx]), hr r (by simp [hx])⟩)
  have h3 := wrRecs_length m.auth (wrRecs m.ans ((wrName m.qname ((headNums m).flatMap (beN 2), [])).1 ++ beN 2 m.qtype ++ beN 2 1, (wrName m.qname ((headNums m).flatMap (beN 2), [])).2)) (fun r hx => ⟨h16 r (by simp [hx]), hr r (by simp [hx])⟩)
  simp only [List.length_append, beN_length] at h2
  unfold enc
  simp only [h0] at h1
  omega
theorem decode_ge {bs : List UInt8} {m : Msg} (h : decode bs = some m) : 12 ≤ bs.length := by
  unfold decode at h
  split at h
  · cases h
  · omega
theorem back0 {m : Msg} (hm : MBack m) : decode (enc m) = some m := by
  have := msg_back hm []
  rwa [List.append_nil] at this
/-- A message that comes back is short. -/
theorem MBack.tiny {m : Msg} (hm : MBack m) : m.tiny := by
  obtain ⟨_, _, hc1, hc2, hq, _, _, hn, ha, hu⟩ := all_parts hm.all
  refine ⟨by have := (names_len hq).1; omega, by omega, fun r hr => ?_, by omega⟩
  have hr1 : rightR r = true := by
    rcases List.mem_append.1 hr with h | h
    · exact List.all_eq_true.1 ha r h
    · exact List.all_eq_true.1 hu r h
  obtain ⟨h1, _, _, hc⟩ := right_parts hr1
  have hl1 := (names_len h1).1
  rcases hc with ⟨_, e1, e2, _⟩ | ⟨_, e1, e2⟩ | ⟨_, e1, _, e2⟩ | ⟨_, _, _, _, _, e1, _, e2⟩
  · exact ⟨by omega, by simp [e1], by simp [e2]⟩
  · exact ⟨by omega, by simp [e1], by simp [e2]⟩
  · have := (names_len e2).1
    exact ⟨by omega, by omega, by simp [e1]⟩
  · exact ⟨by omega, by simp [e1], by omega⟩
theorem MBack.small {m : Msg} (hm : MBack m) : m.small := by
  obtain ⟨h1, h2, h3, _⟩ := hm.tiny
  exact ⟨by omega, by omega, by omega, fun r hr => by obtain ⟨a, b, c⟩ := h3 r hr; exact ⟨by omega, by omega, by omega⟩⟩
theorem Buf.src2 {w : World} {g cap : Nat} {bs : List UInt8} (hle : bs.length ≤ cap) (hc : ∀ (j : Nat) (b : UInt8), bs[j]? = some b → w.cell? ⟨g, j, none⟩ = some (u8v b)) : Src w (some ⟨g, 0, none⟩) bs.length cap bs :=
  ⟨rfl, hle, fun _ => ⟨g, 0, rfl, fun j b hj => by rw [Nat.zero_add]; exact hc j b hj⟩⟩
/-- Encode of a message that fits: bytes that are read as it, whatever stands behind them. -/
theorem encode_src (m : Msg) (v0 : Value) (w : World) (hm : MV w v0 m) (hb : MBack m) :
    Calls Tryd.prog 24 #[v0] w fun e w' => ∃ g c bs, e = .returned (.slice (some ⟨g, 0, none⟩) bs.length c) ∧ bs = enc m ∧ Buf w' w.heap.size (.slice (some ⟨g, 0, none⟩) bs.length c) bs ∧ Src w' (some ⟨g, 0, none⟩) bs.length c bs ∧ (∀ more, decode (bs ++ more) = some m) ∧ decode bs = some m ∧ bs.length ≤ 1000000000 ∧ w.heap.size ≤ g ∧ g < w'.heap.size ∧ Chg (fun _ => False) w w' := by
  refine (encode_any m v0 w hm hb.tiny).mono ?_
  rintro e w' ⟨v, rfl, hB, hC⟩
  have hd := back0 hb
  obtain ⟨g, cap, rfl, hge, hgl, hle, hcell⟩ := hB.open (by intro h; rw [h] at hd; have := decode_ge hd; simp at this)
  exact ⟨g, cap, enc m, rfl, rfl, hB, Buf.src2 hle hcell, msg_back hb, hd, enc_bound hb.tiny (fun r hr => (hb.r r hr).1), hge, hgl, hC⟩
/-- The names of the laws. -/
theorem namesA_ok : ∀ s ∈ namesA, namesL s = true ∧ (splitL s).length ≤ 16 ∧ s.length ≤ 20 := by
  have h : (namesA.all fun s => namesL s && decide ((splitL s).length ≤ 16) && decide (s.length ≤ 20)) = true := by kernel_rfl
  intro s hs
  have := List.all_eq_true.1 h s hs
  simpa [and_assoc] using this
theorem nameN_ok (n : Int) : namesL (nameN n) = true ∧ (splitL (nameN n)).length ≤ 16 ∧ (nameN n).length ≤ 20 := namesA_ok _ (nameN_mem n)
/-- A question fits. -/
theorem MBack.quest {id t : Int} {r : Bool} {tr rc : Bool} {s : List UInt8} (h1 : 0 ≤ id ∧ id ≤ 65535) (h2 : 1 ≤ t ∧ t ≤ 65535) (h3 : namesL s = true) (h4 : (splitL s).length ≤ 16) : MBack ⟨id, r, tr, rc, 0, s, t, [], []⟩ :=
  ⟨by unfold allM; simp [h1, h2, h3], h4, fun r hr => by simp at hr⟩
end Go.Proofs.YthcpjcgjmdfpjaaDoor

namespace Go.Proofs.YthcpjcgjmdfpjaaDoor
open Go Go.ChangeShapes Go.WideShapes Go.ChangeAt Go.RowKit
set_option maxRecDepth 100000

/-! ### Where the ways meet again, inside a region -/
theorem upon_cong {P : Program} {o : Oper} {a : Act} {w : World} {K K' : Act → World → Prop} {Q Q' : Exit → Act → World → Prop} (hp : ∀ c a w, Q (.panic c) a w → Q' (.panic c) a w) (ho : LetsOut Q → LetsOut Q') (hk : ∀ a w, K a w → K' a w) (h : o.wp P a w K Q) : o.wp P a w K' Q' := by
  unfold Oper.wp at *
  generalize (execOp a.eval o).run P w = r at *
  cases r with
  | ok n w' =>
    cases n <;> simp only [Oper.upon] at h ⊢ <;>
      first
        | exact hk _ _ h
        | exact Calls.mono h (fun e w'' he => by cases e <;> first | exact hk _ _ he | exact hp _ _ _ he | exact ho he)
        | exact Rows.mono h (fun _ _ he => hk _ _ he)
  | halt x w' => cases x <;> simp only [Oper.upon] at h ⊢ <;> first | exact hp _ _ _ h | exact h
theorem wpList_join {P : Program} {ops : Array Oper} {Q : Exit → Act → World → Prop} {N : Act → World → Prop} {ys : List Oper} (h2 : ∀ a w, N a w → wpList P ops Q ys a w) : ∀ (xs : List Oper) (a : Act) (w : World), wpList P ops (Exit.then N Q) xs a w → wpList P ops Q (xs ++ ys) a w
  | [], a, w, h => h2 a w h
  | o :: xs, a, w, h => by
    have ih := wpList_join h2 xs
    have hl : LetsOut (Exit.then N Q) → LetsOut Q := fun ⟨a, w, h⟩ => ⟨a, w, h⟩
    unfold wpList at h
    show wpList P ops Q (o :: (xs ++ ys)) a w
    unfold wpList
    split
    · rename_i hw
      rw [if_pos hw] at h
      exact h.imp (upon_cong (fun _ _ _ h => h) hl ih) (fun h => ⟨h.1, hl h.2⟩)
    · rename_i hw
      rw [if_neg hw] at h
      exact ih _ _ h
section
variable {P : Program} {ops : Array Oper} {Q : Exit → Act → World → Prop} {n : Nat} {l : Env} {w : World}
/-- The first k operations, and what holds behind them. -/
theorem WL.cut (k : Nat) (M : Env → World → Prop) {os : List Oper} (h1 : WL P ops (Exit.then (fun a' w' => ∃ l', Fr a' n l' ∧ M l' w') Q) (os.take k) n l w) (h2 : ∀ l w, M l w → WL P ops Q (os.drop k) n l w) : WL P ops Q os n l w := by
  intro a ha
  have := wpList_join (ys := os.drop k) (fun a' w' ⟨l', hf, hM⟩ => h2 l' w' hM a' hf) (os.take k) a w (h1 a ha)
  rwa [List.take_append_drop] at this
theorem WL.cutEnd (ks : List Nat) {M : Env → World → Prop} (hM : M (Env.keep l ks) w) : WL P ops (Exit.then (fun a' w' => ∃ l', Fr a' n l' ∧ M l' w') Q) [] n l w := fun _a ha => ⟨_, ha.weaken (Env.keep_get l ks), hM⟩
end

theorem len_dec {bs : List UInt8} {M : Msg} (h : decode bs = some M) : M.ans.length ≤ 1099511627776 ∧ M.auth.length ≤ 1099511627776 := by
  have := (all_parts (decode_all h)).2.2.2.2.2.2.2.1
  omega
/-! ### Chains -/
theorem Chg.thenB {S : Nat → Prop} {a b c : World} {g : Nat} (h : Chg S a b) (k : Chg (fun j => j = g) b c) (hg : a.heap.size ≤ g) : Chg S a c := h.then k (fun j hj e => absurd hj (by omega))
theorem RSl.keep0 {w w' : World} {v : Value} {rs : List Rec} (h : RSl w v rs) (hc : Chg (fun _ => False) w w') : RSl w' v rs := h.kept hc (fun _ _ e => e)
theorem Src.keep0 {w w' : World} {A : Option Addr} {m c : Nat} {bs : List UInt8} (h : Src w A m c bs) (hc : Chg (fun _ => False) w w') : Src w' A m c bs := h.kept hc (fun _ _ _ e => e)
theorem Glob.keep0 {w w' : World} (h : Glob w) (hc : Chg (fun _ => False) w w') : Glob w' := h.kept hc (fun e => e)
theorem MV.keep0 {w w' : World} {v : Value} {m : Msg} (h : MV w v m) (hc : Chg (fun _ => False) w w') : MV w' v m := h.kept hc (fun _ _ e => e)
theorem Buf.keep0 {w w' : World} {base : Nat} {v : Value} {bs : List UInt8} (h : Buf w base v bs) (hc : Chg (fun _ => False) w w') : Buf w' base v bs := h.kept hc (fun _ _ e => e)

/-! ### Messages -/
abbrev BM (w : World) (b : Nat) (m : Msg) (va vb : Value) : Prop := w.heap[b]? = some (.cells (m.cells va vb).toArray 33 (0, 0))
def msg0 : Msg := ⟨0, false, false, false, 0, [], 0, [], []⟩
theorem Msg.setId (m : Msg) (va vb : Value) (x : Int) : (m.cells va vb).toArray.setIfInBounds 0 (.int .i64 x) = (({ m with id := x } : Msg).cells va vb).toArray := by simp [Msg.cells]
theorem Msg.setType (m : Msg) (va vb : Value) (x : Int) : (m.cells va vb).toArray.setIfInBounds 6 (.int .i64 x) = (({ m with qtype := x } : Msg).cells va vb).toArray := by simp [Msg.cells]
theorem Msg.setQ (m : Msg) (va vb : Value) (s : List UInt8) (x : Int) : ((m.cells va vb).toArray.toList.take 5 ++ [sv s, .int .i64 x] ++ (m.cells va vb).toArray.toList.drop (5 + 2)).toArray = (({ m with qname := s, qtype := x } : Msg).cells va vb).toArray := by simp [Msg.cells]
theorem sl_one (A : Option Addr) (n c : Nat) : (Value.slice A n c).oneCell' = true := rfl
section
variable {l : Env} {n d : Nat} {w : World} {Q : Exit → Act → World → Prop} {M : Env → World → Prop} {t ty : TypeId} {pos : String} {af : Array Edge} {x y : Operand} {b o : Nat}
theorem OP.allocM (hdn : d < n) (h : ∀ w', Chg (fun _ => False) w w' → w'.heap.size = w.heap.size + 1 → BM w' w.heap.size msg0 (.slice none 0 0) (.slice none 0 0) → M ((d, .pointer (some ⟨w.heap.size, 0, none⟩)) :: l) w') :
    OP Tryd.prog Q ⟨some d, .alloc 33, t, pos, af, none⟩ n l w M :=
  OP.alloc1 (.agg (msg0.cells (.slice none 0 0) (.slice none 0 0)).toArray) hdn (by kernel_rfl) h
theorem OP.storeM {m m0 : Msg} {A A2 : Option Addr} {i c i2 c2 : Nat} {u u2 : Value} (hx : ev l x = some (.pointer (some ⟨b, 0, none⟩))) (hy : ev l y = some (.agg (m.cells (.slice A i c) (.slice A2 i2 c2)).toArray)) (hb : BM w b m0 u u2)
    (h : ∀ w', Chg (fun k => k = b) w w' → w'.heap.size = w.heap.size → BM w' b m (.slice A i c) (.slice A2 i2 c2) → M l w') :
    OP Tryd.prog Q ⟨none, .store 33 x y, ty, pos, af, none⟩ n l w M :=
  OP.storeAgg inf33.choose_spec.1 (by rw [inf33.choose_spec.2]; rfl) hx hy (m_all _ _ _ _ _ _ _) hb rfl h
theorem R.loadM {m : Msg} {va vb : Value} (hx : ev l x = some (.pointer (some ⟨b, 0, none⟩))) (hb : BM w b m va vb) : Runs Tryd.prog l (.load 33 x) w (.agg (m.cells va vb).toArray) w :=
  R.loadAgg1 (cs := m.cells va vb) Tryd.underlying33 rfl sz33 hx (fun j u hj => cell_at hb (by rw [Nat.zero_add, List.getElem?_toArray]; exact hj))
theorem R.loadQ {m : Msg} {va vb : Value} (hx : ev l x = some (.pointer (some ⟨b, 5, none⟩))) (hb : BM w b m va vb) : Runs Tryd.prog l (.load 25 x) w (.agg #[sv m.qname, .int .i64 m.qtype]) w :=
  R.loadAgg1 (cs := [sv m.qname, .int .i64 m.qtype]) Tryd.underlying25 rfl sz25 hx (fun j u hj => cell_at hb (by match j, hj with | 0, hj => exact hj | 1, hj => exact hj))
theorem OP.storeId {m : Msg} {va vb : Value} {v : Int} (hx : ev l x = some (.pointer (some ⟨b, 0, none⟩))) (hy : ev l y = some (.int .i64 v)) (hb : BM w b m va vb)
    (h : ∀ w', Chg (fun k => k = b) w w' → w'.heap.size = w.heap.size → BM w' b { m with id := v } va vb → M l w') :
    OP Tryd.prog Q ⟨none, .store 3 x y, ty, pos, af, none⟩ n l w M :=
  OP.store1 sz3 hx hy rfl rfl hb (by simp [Msg.cells]) rfl (fun w' h1 h2 h3 => h w' h1 h2 (by rw [Msg.setId] at h3; exact h3))
theorem OP.storeType {m : Msg} {va vb : Value} {v : Int} (hx : ev l x = some (.pointer (some ⟨b, 6, none⟩))) (hy : ev l y = some (.int .i64 v)) (hb : BM w b m va vb)
    (h : ∀ w', Chg (fun k => k = b) w w' → w'.heap.size = w.heap.size → BM w' b { m with qtype := v } va vb → M l w') :
    OP Tryd.prog Q ⟨none, .store 3 x y, ty, pos, af, none⟩ n l w M :=
  OP.store1 sz3 hx hy rfl rfl hb (by simp [Msg.cells]) rfl (fun w' h1 h2 h3 => h w' h1 h2 (by rw [Msg.setType] at h3; exact h3))
theorem OP.storeQ {m : Msg} {va vb : Value} {s : List UInt8} {v : Int} (hx : ev l x = some (.pointer (some ⟨b, 5, none⟩))) (hy : ev l y = some (.agg #[sv s, .int .i64 v])) (hb : BM w b m va vb)
    (h : ∀ w', Chg (fun k => k = b) w w' → w'.heap.size = w.heap.size → BM w' b { m with qname := s, qtype := v } va vb → M l w') :
    OP Tryd.prog Q ⟨none, .store 25 x y, ty, pos, af, none⟩ n l w M :=
  OP.storeAt sz25 rfl hx hy (by simp [sv, Value.oneCell']) hb (by simp [Msg.cells]) (fun w' h1 h2 h3 => h w' h1 h2 (by
    have e := Msg.setQ m va vb s v
    rw [e] at h3; exact h3))
theorem OP.storeAns {m : Msg} {va vb : Value} {A : Option Addr} {i c : Nat} {rs : List Rec} (hx : ev l x = some (.pointer (some ⟨b, 7, none⟩))) (hy : ev l y = some (.slice A i c)) (hb : BM w b m va vb)
    (h : ∀ w', Chg (fun k => k = b) w w' → w'.heap.size = w.heap.size → BM w' b { m with ans := rs } (.slice A i c) vb → M l w') :
    OP Tryd.prog Q ⟨none, .store 31 x y, ty, pos, af, none⟩ n l w M :=
  OP.store1 sz31 hx hy rfl rfl hb (by simp [Msg.cells]) rfl (fun w' h1 h2 h3 => h w' h1 h2 (by
    have e : (m.cells va vb).toArray.setIfInBounds 7 (.slice A i c) = (({ m with ans := rs } : Msg).cells (.slice A i c) vb).toArray := by simp [Msg.cells]
    rw [e] at h3; exact h3))
theorem OP.storeAuth {m : Msg} {va vb : Value} {A : Option Addr} {i c : Nat} {rs : List Rec} (hx : ev l x = some (.pointer (some ⟨b, 8, none⟩))) (hy : ev l y = some (.slice A i c)) (hb : BM w b m va vb)
    (h : ∀ w', Chg (fun k => k = b) w w' → w'.heap.size = w.heap.size → BM w' b { m with auth := rs } va (.slice A i c) → M l w') :
    OP Tryd.prog Q ⟨none, .store 31 x y, ty, pos, af, none⟩ n l w M :=
  OP.store1 sz31 hx hy rfl rfl hb (by simp [Msg.cells]) rfl (fun w' h1 h2 h3 => h w' h1 h2 (by
    have e : (m.cells va vb).toArray.setIfInBounds 8 (.slice A i c) = (({ m with auth := rs } : Msg).cells va (.slice A i c)).toArray := by simp [Msg.cells]
    rw [e] at h3; exact h3))

/-! ### Questions on their way -/
abbrev BT (w : World) (b : Nat) (t : Tr) : Prop := w.heap[b]? = some (.cells t.cells.toArray 29 (0, 0))
def tr0 : Tr := ⟨[], 0, 0, 0, zero16, 0, 0, false, false, 0⟩
theorem OP.allocT (hdn : d < n) (h : ∀ w', Chg (fun _ => False) w w' → w'.heap.size = w.heap.size + 1 → BT w' w.heap.size tr0 → M ((d, .pointer (some ⟨w.heap.size, 0, none⟩)) :: l) w') :
    OP Tryd.prog Q ⟨some d, .alloc 29, t, pos, af, none⟩ n l w M :=
  OP.alloc1 (.agg tr0.cells.toArray) hdn (by kernel_rfl) h
theorem OP.storeT {T T0 : Tr} (h16 : T.to.length = 16) (h160 : T0.to.length = 16) (hx : ev l x = some (.pointer (some ⟨b, 0, none⟩))) (hy : ev l y = some T.val) (hb : BT w b T0)
    (h : ∀ w', Chg (fun k => k = b) w w' → w'.heap.size = w.heap.size → BT w' b T → M l w') :
    OP Tryd.prog Q ⟨none, .store 29 x y, ty, pos, af, none⟩ n l w M := by
  obtain ⟨i, hi, hz⟩ := inf_of sz29
  exact OP.storeAgg hi (by rw [hz, List.size_toArray, Tr.length h16]) hx hy (Tr.allOne _) hb (by rw [List.size_toArray, List.size_toArray, Tr.length h16, Tr.length h160]) h
theorem R.loadT {T : Tr} (h16 : T.to.length = 16) (hx : ev l x = some (.pointer (some ⟨b, 0, none⟩))) (hb : BT w b T) : Runs Tryd.prog l (.load 29 x) w T.val w :=
  R.loadAgg1 (cs := T.cells) Tryd.underlying29 rfl (by rw [Tr.length h16]; exact sz29) hx (fun j u hj => cell_at hb (by rw [Nat.zero_add, List.getElem?_toArray]; exact hj))
theorem R.loadTQ {T : Tr} (hx : ev l x = some (.pointer (some ⟨b, 0, none⟩))) (hb : BT w b T) : Runs Tryd.prog l (.load 25 x) w (.agg #[sv T.qname, .int .i64 T.qtype]) w :=
  R.loadAgg1 (cs := [sv T.qname, .int .i64 T.qtype]) Tryd.underlying25 rfl sz25 hx (fun j u hj => cell_at hb (by match j, hj with | 0, hj => exact hj | 1, hj => exact hj))
theorem R.loadTTo {T : Tr} (h16 : T.to.length = 16) (hx : ev l x = some (.pointer (some ⟨b, 4, none⟩))) (hb : BT w b T) : Runs Tryd.prog l (.load 27 x) w (.agg (T.to.map u8v).toArray) w :=
  R.loadAgg1 (cs := T.to.map u8v) Tryd.underlying27 rfl (by rw [List.length_map, h16]; exact sz27) hx (fun j u hj => cell_at hb (Tr.atTo hj))
theorem Tr.setStream {T : Tr} (h16 : T.to.length = 16) (s : Bool) : T.cells.toArray.setIfInBounds 22 (.bool s) = ({ T with stream := s } : Tr).cells.toArray := by
  obtain ⟨q, a, b, c, to, i, p, st, g, u⟩ := T
  obtain ⟨a0, a1, a2, a3, a4, a5, a6, a7, a8, a9, b0, b1, b2, b3, b4, b5, rfl⟩ := list16 h16
  rfl
theorem OP.storeStream {T : Tr} {v : Bool} (h16 : T.to.length = 16) (hx : ev l x = some (.pointer (some ⟨b, 22, none⟩))) (hy : ev l y = some (.bool v)) (hb : BT w b T)
    (h : ∀ w', Chg (fun k => k = b) w w' → w'.heap.size = w.heap.size → BT w' b { T with stream := v } → M l w') :
    OP Tryd.prog Q ⟨none, .store 4 x y, ty, pos, af, none⟩ n l w M :=
  OP.store1 sz4 hx hy rfl rfl hb (by rw [List.size_toArray, Tr.length h16]; decide) rfl (fun w' h1 h2 h3 => h w' h1 h2 (by rw [Tr.setStream h16] at h3; exact h3))

/-! ### Addresses alone -/
abbrev BA (w : World) (b : Nat) (a : List UInt8) : Prop := w.heap[b]? = some (.cells (a.map u8v).toArray 27 (0, 0))
theorem u8_all (a : List UInt8) : (a.map u8v).toArray.all (·.oneCell') = true := by
  rw [Array.all_eq_true_iff_forall_mem]
  intro u hu
  exact u8v_one a u (by simpa using hu)
theorem OP.allocA (hdn : d < n) (h : ∀ w', Chg (fun _ => False) w w' → w'.heap.size = w.heap.size + 1 → BA w' w.heap.size zero16 → M ((d, .pointer (some ⟨w.heap.size, 0, none⟩)) :: l) w') :
    OP Tryd.prog Q ⟨some d, .alloc 27, t, pos, af, none⟩ n l w M :=
  OP.alloc1 (.agg (zero16.map u8v).toArray) hdn (by kernel_rfl) h
theorem OP.storeA {a a0 : List UInt8} (h16 : a.length = 16) (h160 : a0.length = 16) (hx : ev l x = some (.pointer (some ⟨b, 0, none⟩))) (hy : ev l y = some (.agg (a.map u8v).toArray)) (hb : BA w b a0)
    (h : ∀ w', Chg (fun k => k = b) w w' → w'.heap.size = w.heap.size → BA w' b a → M l w') :
    OP Tryd.prog Q ⟨none, .store 27 x y, ty, pos, af, none⟩ n l w M := by
  obtain ⟨i, hi, hz⟩ := inf_of sz27
  exact OP.storeAgg hi (by rw [hz, List.size_toArray, List.length_map, h16]) hx hy (u8_all a) hb (by rw [List.size_toArray, List.size_toArray, List.length_map, List.length_map, h16, h160]) h
theorem R.loadA {a : List UInt8} (h16 : a.length = 16) (hx : ev l x = some (.pointer (some ⟨b, 0, none⟩))) (hb : BA w b a) : Runs Tryd.prog l (.load 27 x) w (.agg (a.map u8v).toArray) w :=
  R.loadAgg1 (cs := a.map u8v) Tryd.underlying27 rfl (by rw [List.length_map, h16]; exact sz27) hx (fun j u hj => cell_at hb (by rw [Nat.zero_add, List.getElem?_toArray]; exact hj))
theorem OP.storeA1 {a : List UInt8} {i : Nat} {c : UInt8} (hi : i < a.length) (hx : ev l x = some (.pointer (some ⟨b, i, none⟩))) (hy : ev l y = some (u8v c)) (hb : BA w b a)
    (h : ∀ w', Chg (fun k => k = b) w w' → w'.heap.size = w.heap.size → BA w' b (a.set i c) → M l w') :
    OP Tryd.prog Q ⟨none, .store 5 x y, ty, pos, af, none⟩ n l w M :=
  OP.store1 sz5 hx hy rfl rfl hb (by simpa using hi) rfl (fun w' h1 h2 h3 => h w' h1 h2 (by
    have e : (a.map u8v).toArray.setIfInBounds i (u8v c) = ((a.set i c).map u8v).toArray := by simp
    rw [e] at h3; exact h3))

/-! ### Seeds and local addresses -/
theorem SeedV.length {s : SeedV} (h : s.addr.length = 16) : s.cells.length = 20 := by simp [SeedV.cells, h]
theorem SeedV.atAddr {s : SeedV} {j : Nat} {u : Value} (hj : (s.addr.map u8v)[j]? = some u) : s.cells.toArray[3 + j]? = some u := by
  have hlt := (List.getElem?_eq_some_iff.1 hj).1
  rw [Nat.add_comm, List.getElem?_toArray]
  show (s.addr.map u8v ++ [sv s.data])[j]? = _
  rw [List.getElem?_append_left hlt]; exact hj
theorem SeedV.at19 {s : SeedV} (h : s.addr.length = 16) : s.cells.toArray[19]? = some (sv s.data) := by
  rw [List.getElem?_toArray]
  show (s.addr.map u8v ++ [sv s.data])[16]? = _
  rw [List.getElem?_append_right (by simp [h])]; simp [h]
theorem SeedV.allOne (s : SeedV) : s.cells.toArray.all (·.oneCell') = true := by
  rw [Array.all_eq_true_iff_forall_mem]
  intro u hu
  simp only [SeedV.cells, List.mem_toArray, List.mem_cons, List.mem_append, List.mem_map, List.not_mem_nil, or_false] at hu
  rcases hu with rfl | rfl | rfl | ⟨c, _, rfl⟩ | rfl <;> rfl
abbrev BSd (w : World) (b : Nat) (s : SeedV) : Prop := w.heap[b]? = some (.cells s.cells.toArray 50 (0, 0))
def seed0 : SeedV := ⟨0, 0, 0, zero16, []⟩
theorem OP.allocSd (hdn : d < n) (h : ∀ w', Chg (fun _ => False) w w' → w'.heap.size = w.heap.size + 1 → BSd w' w.heap.size seed0 → M ((d, .pointer (some ⟨w.heap.size, 0, none⟩)) :: l) w') :
    OP Tryd.prog Q ⟨some d, .alloc 50, t, pos, af, none⟩ n l w M :=
  OP.alloc1 (.agg seed0.cells.toArray) hdn (by kernel_rfl) h
theorem OP.storeSd {s s0 : SeedV} (h16 : s.addr.length = 16) (h160 : s0.addr.length = 16) (hx : ev l x = some (.pointer (some ⟨b, 0, none⟩))) (hy : ev l y = some (.agg s.cells.toArray)) (hb : BSd w b s0)
    (h : ∀ w', Chg (fun k => k = b) w w' → w'.heap.size = w.heap.size → BSd w' b s → M l w') :
    OP Tryd.prog Q ⟨none, .store 50 x y, ty, pos, af, none⟩ n l w M := by
  obtain ⟨i, hi, hz⟩ := inf_of sz50
  exact OP.storeAgg hi (by rw [hz, List.size_toArray, SeedV.length h16]) hx hy s.allOne hb (by rw [List.size_toArray, List.size_toArray, SeedV.length h16, SeedV.length h160]) h
theorem R.loadSdAt {s : SeedV} {g k : Nat} (h16 : s.addr.length = 16) (hx : ev l x = some (.pointer (some ⟨g, k, none⟩))) (hc : ∀ i u, s.cells[i]? = some u → w.cell? ⟨g, k + i, none⟩ = some u) : Runs Tryd.prog l (.load 50 x) w (.agg s.cells.toArray) w :=
  R.loadAgg1 (cs := s.cells) Tryd.underlying50 rfl (by rw [SeedV.length h16]; exact sz50) hx hc
theorem R.loadSd {s : SeedV} (h16 : s.addr.length = 16) (hx : ev l x = some (.pointer (some ⟨b, 0, none⟩))) (hb : BSd w b s) : Runs Tryd.prog l (.load 50 x) w (.agg s.cells.toArray) w :=
  R.loadSdAt h16 hx (fun j u hj => cell_at hb (by rw [Nat.zero_add, List.getElem?_toArray]; exact hj))
theorem Sl.at {α : Type} {cells : α → List Value} {N : Nat} {A : Option Addr} {m : Nat} {ls : List α} (h : Sl cells N w A m ls) {j : Nat} {a : α} (hj : ls[j]? = some a) : ls.length = m ∧ ∃ g o, A = some ⟨g, o, none⟩ ∧ ∀ i u, (cells a)[i]? = some u → w.cell? ⟨g, o + j * N + i, none⟩ = some u := by
  have hlt := (List.getElem?_eq_some_iff.1 hj).1
  obtain ⟨g, o, hA, hc⟩ := h.2 (by have := h.1; omega)
  exact ⟨h.1, g, o, hA, fun i u hi => hc j a i u hj hi⟩
theorem LocalV.length {s : LocalV} (h : s.addr.length = 16) : s.cells.length = 18 := by simp [LocalV.cells, h]
theorem LocalV.atAddr {s : LocalV} {j : Nat} {u : Value} (hj : (s.addr.map u8v)[j]? = some u) : s.cells.toArray[j]? = some u := by
  have hlt := (List.getElem?_eq_some_iff.1 hj).1
  rw [List.getElem?_toArray]
  show (s.addr.map u8v ++ _)[j]? = _
  rw [List.getElem?_append_left hlt]; exact hj
theorem LocalV.allOne (s : LocalV) : s.cells.toArray.all (·.oneCell') = true := by
  rw [Array.all_eq_true_iff_forall_mem]
  intro u hu
  simp only [LocalV.cells, List.mem_toArray, List.mem_cons, List.mem_append, List.mem_map, List.not_mem_nil, or_false] at hu
  rcases hu with ⟨c, _, rfl⟩ | rfl | rfl <;> rfl
abbrev BLo (w : World) (b : Nat) (s : LocalV) : Prop := w.heap[b]? = some (.cells s.cells.toArray 70 (0, 0))
def local0 : LocalV := ⟨zero16, false, false⟩
theorem OP.allocLo (hdn : d < n) (h : ∀ w', Chg (fun _ => False) w w' → w'.heap.size = w.heap.size + 1 → BLo w' w.heap.size local0 → M ((d, .pointer (some ⟨w.heap.size, 0, none⟩)) :: l) w') :
    OP Tryd.prog Q ⟨some d, .alloc 70, t, pos, af, none⟩ n l w M :=
  OP.alloc1 (.agg local0.cells.toArray) hdn (by kernel_rfl) h
theorem OP.storeLo {s s0 : LocalV} (h16 : s.addr.length = 16) (h160 : s0.addr.length = 16) (hx : ev l x = some (.pointer (some ⟨b, 0, none⟩))) (hy : ev l y = some (.agg s.cells.toArray)) (hb : BLo w b s0)
    (h : ∀ w', Chg (fun k => k = b) w w' → w'.heap.size = w.heap.size → BLo w' b s → M l w') :
    OP Tryd.prog Q ⟨none, .store 70 x y, ty, pos, af, none⟩ n l w M := by
  obtain ⟨i, hi, hz⟩ := inf_of sz70
  exact OP.storeAgg hi (by rw [hz, List.size_toArray, LocalV.length h16]) hx hy s.allOne hb (by rw [List.size_toArray, List.size_toArray, LocalV.length h16, LocalV.length h160]) h
theorem R.loadLoAt {s : LocalV} {g k : Nat} (h16 : s.addr.length = 16) (hx : ev l x = some (.pointer (some ⟨g, k, none⟩))) (hc : ∀ i u, s.cells[i]? = some u → w.cell? ⟨g, k + i, none⟩ = some u) : Runs Tryd.prog l (.load 70 x) w (.agg s.cells.toArray) w :=
  R.loadAgg1 (cs := s.cells) Tryd.underlying70 rfl (by rw [LocalV.length h16]; exact sz70) hx hc
theorem R.loadLoA {s : LocalV} (h16 : s.addr.length = 16) (hx : ev l x = some (.pointer (some ⟨b, 0, none⟩))) (hb : BLo w b s) : Runs Tryd.prog l (.load 27 x) w (.agg (s.addr.map u8v).toArray) w :=
  R.loadAgg1 (cs := s.addr.map u8v) Tryd.underlying27 rfl (by rw [List.length_map, h16]; exact sz27) hx (fun j u hj => cell_at hb (by rw [Nat.zero_add]; exact LocalV.atAddr hj))
theorem R.loadSdA {s : SeedV} (h16 : s.addr.length = 16) (hx : ev l x = some (.pointer (some ⟨b, 3, none⟩))) (hb : BSd w b s) : Runs Tryd.prog l (.load 27 x) w (.agg (s.addr.map u8v).toArray) w :=
  R.loadAgg1 (cs := s.addr.map u8v) Tryd.underlying27 rfl (by rw [List.length_map, h16]; exact sz27) hx (fun j u hj => cell_at hb (SeedV.atAddr hj))
theorem R.loadRA {r : Rec} {g k : Nat} (h16 : r.addr.length = 16) (hx : ev l x = some (.pointer (some ⟨g, k + 3, none⟩))) (hc : ∀ i u, r.cells[i]? = some u → w.cell? ⟨g, k + i, none⟩ = some u) : Runs Tryd.prog l (.load 27 x) w (.agg (r.addr.map u8v).toArray) w :=
  R.loadAgg1 (cs := r.addr.map u8v) Tryd.underlying27 rfl (by rw [List.length_map, h16]; exact sz27) hx (fun j u hj => by
    rw [Nat.add_assoc]
    refine hc _ u ?_
    have := Rec.atAddr (r := r) hj
    rwa [List.getElem?_toArray] at this)

/-! ### Appends of a slice handed in -/
theorem OP.appendSrc {base : Nat} {v : Value} {bs news : List UInt8} {A : Option Addr} {m c : Nat} (hdn : d < n) (hx : ev l x = some v) (hy : ev l y = some (.slice A m c)) (hB : Buf w base v bs) (hS : Src w A m c news) (hA : A = none → c = 0) (hl : bs.length + m ≤ 140737488355328) (hb : base ≤ w.heap.size)
    (h : ∀ v' w', Buf w' base v' (bs ++ news) → Moved w w' v v' → M ((d, v') :: l) w') :
    OP Tryd.prog Q ⟨some d, .call { callee := .builtin .append, args := #[x, y], argTypes := #[36, 36] }, t, pos, af, none⟩ n l w M := by
  cases A with
  | none =>
    have hc := hA rfl
    have hm : m = 0 := by have := hS.cap; omega
    subst hc hm
    have hn : news = [] := List.eq_nil_of_length_eq_zero hS.len
    subst hn
    obtain ⟨i0, hi, hz0, hz1, hz2⟩ := info_parts Tryd.info5
    refine OP.val (v := v) (w' := w) hdn (fun r _ _ _ _ _ he => ?_) (h v w (by rw [List.append_nil]; exact hB) (Moved.refl _ _))
    have hr := fun ty => run_append_owned_none (P := Tryd.prog) (w := w) base 36 ty 5 i0 1 Tryd.underlying36 hi v bs.length (bs.map u8v) hB
    simp only [execOp, resolve, invoke, builtin, Sem.run_bind, Sem.run_pure, Result.andThen_ok, List.map_toArray, List.map_cons, List.map_nil, he x _ hx, he y _ hy]
    rw [hr]; rfl
  | some ad =>
    refine OP.append news hdn hx hy hB hS.len ?_ (by have := hS.len; omega) hb h
    intro j u hj
    have hlt := (List.getElem?_eq_some_iff.1 hj).1
    rw [List.length_map, hS.len] at hlt
    obtain ⟨g, o, hA2, hcell⟩ := hS.cells (by omega)
    obtain rfl := Option.some.inj hA2
    rw [List.getElem?_map] at hj
    obtain ⟨c1, hc1, rfl⟩ := Option.map_eq_some_iff.1 hj
    rw [Addr.add_none]
    exact hcell j c1 hc1

/-! ### strings.Count of one byte -/
theorem R.countStr {s : List UInt8} {c : UInt8} {ts : Array TypeId} (hx : ev l x = some (sv s)) (hy : ev l y = some (u8v c)) : Runs Tryd.prog l (.call { callee := .value (.func 56), args := #[x, y], argTypes := ts }) w (.int .i64 ((Lib.countByte s c : Nat) : Int)) w := fun r _ _ _ _ _ he => by
  have hcf : (callFunc 56 #[sv s, u8v c]).run Tryd.prog w = .ok (.value (.int .i64 ((Lib.countByte s c : Nat) : Int))) w := by
    unfold callFunc
    have h1 : (Tryd.f56.name == "runtime.NumGoroutine") = false := by kernel_rfl
    have h2 : Tryd.f56.body.isNone = true := by kernel_rfl
    have h3 : Extern.findNext Tryd.f56 = none := by kernel_rfl
    have h4 : Extern.find Tryd.f56 = some Extern.BytealgCount.count := by kernel_rfl
    have h5 := Lib.run_countString (P := Tryd.prog) ⟨s.toArray⟩ (c.toNat : Int) w
    have e1 : ((c.toNat : Int).toNat.toUInt8) = c := by
      apply UInt8.toNat_inj.1
      simp
    rw [e1] at h5
    simp only [Sem.run_bind, run_program, Result.andThen_ok, Tryd.func56, h1, h2, Bool.false_eq_true, if_false, if_true, run_mark, h3, h4]
    show Result.andThen ((Extern.BytealgCount.count #[.string ⟨s.toArray⟩, .int .u8 (c.toNat : Int)]).run Tryd.prog w) _ = _
    rw [h5]
    simp
  simp only [execOp, resolve, List.map_toArray, List.map_cons, List.map_nil, he x _ hx, he y _ hy, he (.func 56) _ rfl, Deferred.ofValue, Sem.run_bind, Sem.run_pure, Result.andThen_ok, invoke, Array.append_empty, Array.empty_append]
  exact hcf
end
end Go.Proofs.YthcpjcgjmdfpjaaDoor
