/- Words and walks for the statement MsgMore, part 4 of 5: Match, Same, Ops7, Fit04, SeedOps, SeedSpec, Light, Record. -/
import Derived.Lib.Bytealg
import Derived.Laws.OwnMore
import Derived.Test.YthcpjcgjmdfpjaaDoorMsgMoreC
namespace Go.Proofs.YthcpjcgjmdfpjaaDoor
open Go Go.RowKit
set_option maxRecDepth 100000
set_option maxHeartbeats 4000000

/-- Does it come where it is waited for? -/
def passT (t : Tr) (link gen : Int) (frm : List UInt8) (port : Int) : Bool := decide (link = t.link) && decide (gen = t.gen) && decide (port = t.port) && (t.group || decide (frm = t.to))
/-- Does it answer? -/
def ansT (t : Tr) (m : Msg) : Bool := m.reply && decide (m.id = t.id) && decide (m.qname = t.qname) && decide (m.qtype = t.qtype)
def MatchRes (t : Tr) (link gen : Int) (frm : List UInt8) (port : Int) (base : Nat) (res : Option Msg) (e : Ending) (w : World) : Prop :=
  match res with
  | some m => if passT t link gen frm port = true then ∃ v, e = .returned (.tuple #[v, .bool (ansT t m)]) ∧ MVF base w v m else e = .returned (.tuple #[zeroMV, .bool false])
  | none => e = .returned (.tuple #[zeroMV, .bool false])
theorem ans4 {a : Bool} {p q : Prop} : a = false ∨ (a = true ∧ ¬ p) ∨ (a = true ∧ p ∧ ¬ q) ∨ (a = true ∧ p ∧ q) := by
  cases a <;> by_cases hp : p <;> by_cases hq : q <;> simp [hp, hq]
theorem match_any (t : Tr) (link gen : Int) (frm : List UInt8) (port : Int) (A : Option Addr) (m c : Nat) (bs : List UInt8) (w : World) (h16 : t.to.length = 16) (hf16 : frm.length = 16) (hS : Src w A m c bs) (hgl : ∀ g o, A = some ⟨g, o, none⟩ → g < w.heap.size) (hm : m ≤ 1099511627776) (hG : Glob w) :
    Calls Tryd.prog 23 #[t.val, .int .i64 link, .int .i64 gen, .agg (frm.map u8v).toArray, .int .i64 port, .slice A m c] w fun e w' => Chg (fun _ => False) w w' ∧ MatchRes t link gen frm port w.heap.size (decode bs) e w' := by
  refine calls_cw (args := [t.val, .int .i64 link, .int .i64 gen, .agg (frm.map u8v).toArray, .int .i64 port, .slice A m c]) Tryd.func23 rfl rfl ?_
  show CW _ _ _ 70 [(0, t.val), (1, .int .i64 link), (2, .int .i64 gen), (3, .agg (frm.map u8v).toArray), (4, .int .i64 port), (5, .slice A m c)] w
  refine CW.rseq ?_
  refine WL.eff rfl (OP.box (by decide) rfl ?_)
  intro w1 hc1 hs1 hT0
  obtain ⟨bt, he_bt⟩ : ∃ b, b = w.heap.size := ⟨_, rfl⟩
  have hT : w1.heap[bt]? = some (.cells t.cells.toArray 29 (0, 0)) := by rw [he_bt]; exact hT0
  rw [← he_bt]
  refine WL.eff rfl (OP.box (by decide) rfl ?_)
  intro w2 hc2 hs2 hF0
  obtain ⟨bf, he_bf⟩ : ∃ b, b = w1.heap.size := ⟨_, rfl⟩
  have hF : w2.heap[bf]? = some (.cells (frm.map u8v).toArray 27 (0, 0)) := by rw [he_bf]; exact hF0
  rw [← he_bf]
  have hT := hc2.at hT (fun e => e)
  refine WL.eff rfl (OP.alloc1 (.agg (Msg.cells ⟨0, false, false, false, 0, [], 0, [], []⟩ (.slice none 0 0) (.slice none 0 0)).toArray) (by decide) (by kernel_rfl) ?_)
  intro w3 hc3 hs3 hR0
  obtain ⟨br, he_br⟩ : ∃ b, b = w2.heap.size := ⟨_, rfl⟩
  have hR : w3.heap[br]? = some (.cells (Msg.cells ⟨0, false, false, false, 0, [], 0, [], []⟩ (.slice none 0 0) (.slice none 0 0)).toArray 33 (0, 0)) := by rw [he_br]; exact hR0
  rw [← he_br]
  have hT := hc3.at hT (fun e => e)
  have hF := hc3.at hF (fun e => e)
  have hc13 : Chg (fun _ => False) w w3 := (hc1.trans hc2).trans hc3
  refine WL.op (by decide) (R.assign rfl) ?_
  refine WL.next ?_
  refine CW.rseq ?_
  refine WL.op (by decide) (R.move rfl) ?_
  refine WL.eff rfl (OP.call (by decide) Tryd.func27 (by kernel_rfl) (by kernel_rfl) rfl (decode_any A m c bs w3 (hS.kept hc13 (fun _ _ _ e => e)) (fun g o h => by have := hgl g o h; omega) hm (hG.kept hc13 (fun e => e))) ?_)
  rintro ed w4 ⟨hc4, hres⟩
  have hz4 := hc4.size
  have hT := hc4.at hT (fun e => e)
  have hF := hc4.at hF (fun e => e)
  have hR := hc4.at hR (fun e => e)
  have hC := hc13.trans hc4
  cases hd : decode bs
  · skip
    rw [hd] at hres
    obtain rfl := hres
    refine ⟨_, rfl, ?_⟩
    refine WL.op (by decide) (R.move rfl) ?_
    refine WL.op (by decide) (R.extract rfl rfl) ?_
    refine WL.op (by decide) (R.extract rfl rfl) ?_
    refine WL.eff rfl (OP.alloc1 (.agg (Msg.cells ⟨0, false, false, false, 0, [], 0, [], []⟩ (.slice none 0 0) (.slice none 0 0)).toArray) (by decide) (by kernel_rfl) ?_)
    intro w5 hc5 hs5 hB0
    obtain ⟨bm, he_bm⟩ : ∃ b, b = w4.heap.size := ⟨_, rfl⟩
    have hBm : w5.heap[bm]? = some (.cells (Msg.cells ⟨0, false, false, false, 0, [], 0, [], []⟩ (.slice none 0 0) (.slice none 0 0)).toArray 33 (0, 0)) := by rw [he_bm]; exact hB0
    rw [← he_bm]
    have hT := hc5.at hT (fun e => e)
    have hF := hc5.at hF (fun e => e)
    have hR := hc5.at hR (fun e => e)
    have hC := hC.trans hc5
    refine WL.eff rfl (OP.storeAgg inf33.choose_spec.1 (by rw [inf33.choose_spec.2]; rfl) rfl rfl (m_all _ _ _ _ _ _ _) hBm rfl ?_)
    intro w6 hc6 hs6 hBm
    have hT := hc6.at hT (fun e => by omega)
    have hF := hc6.at hF (fun e => by omega)
    have hR := hc6.at hR (fun e => by omega)
    have hC := hC.then hc6 (fun k hk e => by omega)
    have hc46 : Chg (fun _ => False) w4 w6 := hc5.then hc6 (fun k hk e => by omega)
    refine WL.op (by decide) (R.assign rfl) ?_
    refine WL.next ?_
    refine CW.seq ?_
    refine CW.rseq ?_
    refine WL.op (by decide) (R.move rfl) ?_
    refine WL.op (by decide) (R.neq rfl rfl (c := true) (by decide)) ?_
    refine WL.op (by decide) (R.move rfl) ?_
    refine WL.pass (by decide) rfl rfl rfl ?_
    refine WL.pass (by decide) rfl rfl rfl ?_
    refine WL.pass (by decide) rfl rfl rfl ?_
    refine WL.pass (by decide) rfl rfl rfl ?_
    refine WL.op (by decide) (R.pickT rfl rfl) ?_
    refine WL.op (by decide) (R.move rfl) ?_
    refine WL.pass (by decide) rfl rfl rfl ?_
    refine WL.pass (by decide) rfl rfl rfl ?_
    refine WL.pass (by decide) rfl rfl rfl ?_
    refine WL.pass (by decide) rfl rfl rfl ?_
    refine WL.op (by decide) (R.pickT rfl rfl) ?_
    refine WL.op (by decide) (R.move rfl) ?_
    refine WL.pass (by decide) rfl rfl rfl ?_
    refine WL.pass (by decide) rfl rfl rfl ?_
    refine WL.pass (by decide) rfl rfl rfl ?_
    refine WL.pass (by decide) rfl rfl rfl ?_
    refine WL.op (by decide) (R.pickT rfl rfl) ?_
    refine WL.op (by decide) (R.move rfl) ?_
    refine WL.pass (by decide) rfl rfl rfl ?_
    refine WL.pass (by decide) rfl rfl rfl ?_
    refine WL.pass (by decide) rfl rfl rfl ?_
    refine WL.pass (by decide) rfl rfl rfl ?_
    refine WL.passU (by decide) rfl rfl ?_
    refine WL.passU (by decide) rfl rfl ?_
    refine WL.passU (by decide) rfl rfl ?_
    refine WL.passU (by decide) rfl rfl ?_
    refine WL.pass (by decide) rfl rfl rfl ?_
    refine WL.op (by decide) (R.pickT rfl rfl) ?_
    refine WL.next ?_
    refine CW.condT rfl ?_
    refine CW.rseq ?_
    refine WL.op (by decide) (R.build (parts := []) (vals := []) rfl (fun w => build33_0 w)) ?_
    refine WL.eff rfl (OP.storeAgg inf33.choose_spec.1 (by rw [inf33.choose_spec.2]; rfl) rfl rfl (m_all _ _ _ _ _ _ _) hR rfl ?_)
    intro w7 hc7 hs7 hR
    have hC := hC.then hc7 (fun k hk e => by omega)
    refine WL.op (by decide) (R.assign rfl) ?_
    refine WL.next ?_
    refine CW.ret ?_
    refine EW.thenRet ?_
    exact EW.retCT (.inl rfl) rfl rfl rfl (cs := Msg.cells ⟨0, false, false, false, 0, [], 0, [], []⟩ (.slice none 0 0) (.slice none 0 0)) Tryd.underlying33 rfl sz33 (fun j u hj => cell_at hR (by rw [List.getElem?_toArray]; exact hj)) ⟨hC, rfl⟩
  · skip
    rename_i M
    rw [hd] at hres
    obtain ⟨v, rfl, va, vb, rfl, hva, hvb, hfa, hfb⟩ := hres
    obtain ⟨Aa, ca, rfl, _⟩ := hva.form
    obtain ⟨Ab, cb, rfl, _⟩ := hvb.form
    refine ⟨_, rfl, ?_⟩
    refine WL.op (by decide) (R.move rfl) ?_
    refine WL.op (by decide) (R.extract rfl rfl) ?_
    refine WL.op (by decide) (R.extract rfl rfl) ?_
    refine WL.eff rfl (OP.alloc1 (.agg (Msg.cells ⟨0, false, false, false, 0, [], 0, [], []⟩ (.slice none 0 0) (.slice none 0 0)).toArray) (by decide) (by kernel_rfl) ?_)
    intro w5 hc5 hs5 hB0
    obtain ⟨bm, he_bm⟩ : ∃ b, b = w4.heap.size := ⟨_, rfl⟩
    have hBm : w5.heap[bm]? = some (.cells (Msg.cells ⟨0, false, false, false, 0, [], 0, [], []⟩ (.slice none 0 0) (.slice none 0 0)).toArray 33 (0, 0)) := by rw [he_bm]; exact hB0
    rw [← he_bm]
    have hT := hc5.at hT (fun e => e)
    have hF := hc5.at hF (fun e => e)
    have hR := hc5.at hR (fun e => e)
    have hC := hC.trans hc5
    refine WL.eff rfl (OP.storeAgg inf33.choose_spec.1 (by rw [inf33.choose_spec.2]; rfl) rfl rfl (m_all _ _ _ _ _ _ _) hBm rfl ?_)
    intro w6 hc6 hs6 hBm
    have hT := hc6.at hT (fun e => by omega)
    have hF := hc6.at hF (fun e => by omega)
    have hR := hc6.at hR (fun e => by omega)
    have hC := hC.then hc6 (fun k hk e => by omega)
    have hc46 : Chg (fun _ => False) w4 w6 := hc5.then hc6 (fun k hk e => by omega)
    refine WL.op (by decide) (R.assign rfl) ?_
    refine WL.next ?_
    refine CW.seq ?_
    refine CW.rseq ?_
    refine WL.op (by decide) (R.move rfl) ?_
    refine WL.op (by decide) (R.neq rfl rfl (c := false) (by decide)) ?_
    refine WL.op (by decide) (R.move rfl) ?_
    refine WL.gop (by decide) rfl rfl rfl (R.move rfl) ?_
    refine WL.gop (by decide) rfl rfl rfl (FA29_1 rfl) ?_
    refine WL.gop (by decide) rfl rfl rfl (R.load Tryd.underlying3 rfl rfl (cell_at hT rfl)) ?_
    refine WL.gsplit _ (by decide) rfl rfl rfl (R.neqD rfl rfl) (fun h1 => ?_) (fun h1 => ?_)
    · skip
      refine WL.op (by decide) (R.pickF rfl rfl) ?_
      refine WL.op (by decide) (R.move rfl) ?_
      refine WL.pass (by decide) rfl rfl rfl ?_
      refine WL.pass (by decide) rfl rfl rfl ?_
      refine WL.pass (by decide) rfl rfl rfl ?_
      refine WL.pass (by decide) rfl rfl rfl ?_
      refine WL.op (by decide) (R.pickT rfl rfl) ?_
      refine WL.op (by decide) (R.move rfl) ?_
      refine WL.pass (by decide) rfl rfl rfl ?_
      refine WL.pass (by decide) rfl rfl rfl ?_
      refine WL.pass (by decide) rfl rfl rfl ?_
      refine WL.pass (by decide) rfl rfl rfl ?_
      refine WL.op (by decide) (R.pickT rfl rfl) ?_
      refine WL.op (by decide) (R.move rfl) ?_
      refine WL.pass (by decide) rfl rfl rfl ?_
      refine WL.pass (by decide) rfl rfl rfl ?_
      refine WL.pass (by decide) rfl rfl rfl ?_
      refine WL.pass (by decide) rfl rfl rfl ?_
      refine WL.passU (by decide) rfl rfl ?_
      refine WL.passU (by decide) rfl rfl ?_
      refine WL.passU (by decide) rfl rfl ?_
      refine WL.passU (by decide) rfl rfl ?_
      refine WL.pass (by decide) rfl rfl rfl ?_
      refine WL.op (by decide) (R.pickT rfl rfl) ?_
      refine WL.next ?_
      refine CW.condT rfl ?_
      refine CW.rseq ?_
      refine WL.op (by decide) (R.build (parts := []) (vals := []) rfl (fun w => build33_0 w)) ?_
      refine WL.eff rfl (OP.storeAgg inf33.choose_spec.1 (by rw [inf33.choose_spec.2]; rfl) rfl rfl (m_all _ _ _ _ _ _ _) hR rfl ?_)
      intro w7 hc7 hs7 hR
      have hC := hC.then hc7 (fun k hk e => by omega)
      refine WL.op (by decide) (R.assign rfl) ?_
      refine WL.next ?_
      refine CW.ret ?_
      refine EW.thenRet ?_
      exact EW.retCT (.inl rfl) rfl rfl rfl (cs := Msg.cells ⟨0, false, false, false, 0, [], 0, [], []⟩ (.slice none 0 0) (.slice none 0 0)) Tryd.underlying33 rfl sz33 (fun j u hj => cell_at hR (by rw [List.getElem?_toArray]; exact hj)) ⟨hC, by show MatchRes _ _ _ _ _ _ (some M) _ _; unfold MatchRes; simp only; rw [if_neg (by unfold passT; simp [*])]; rfl⟩
    · skip
      refine WL.op (by decide) (R.pickF rfl rfl) ?_
      refine WL.op (by decide) (R.move rfl) ?_
      refine WL.gop (by decide) rfl rfl rfl (R.move rfl) ?_
      refine WL.gop (by decide) rfl rfl rfl (FA29_2 rfl) ?_
      refine WL.gop (by decide) rfl rfl rfl (R.load Tryd.underlying3 rfl rfl (cell_at hT rfl)) ?_
      refine WL.gsplit _ (by decide) rfl rfl rfl (R.neqD rfl rfl) (fun h2 => ?_) (fun h2 => ?_)
      · skip
        refine WL.op (by decide) (R.pickF rfl rfl) ?_
        refine WL.op (by decide) (R.move rfl) ?_
        refine WL.pass (by decide) rfl rfl rfl ?_
        refine WL.pass (by decide) rfl rfl rfl ?_
        refine WL.pass (by decide) rfl rfl rfl ?_
        refine WL.pass (by decide) rfl rfl rfl ?_
        refine WL.op (by decide) (R.pickT rfl rfl) ?_
        refine WL.op (by decide) (R.move rfl) ?_
        refine WL.pass (by decide) rfl rfl rfl ?_
        refine WL.pass (by decide) rfl rfl rfl ?_
        refine WL.pass (by decide) rfl rfl rfl ?_
        refine WL.pass (by decide) rfl rfl rfl ?_
        refine WL.passU (by decide) rfl rfl ?_
        refine WL.passU (by decide) rfl rfl ?_
        refine WL.passU (by decide) rfl rfl ?_
        refine WL.passU (by decide) rfl rfl ?_
        refine WL.pass (by decide) rfl rfl rfl ?_
        refine WL.op (by decide) (R.pickT rfl rfl) ?_
        refine WL.next ?_
        refine CW.condT rfl ?_
        refine CW.rseq ?_
        refine WL.op (by decide) (R.build (parts := []) (vals := []) rfl (fun w => build33_0 w)) ?_
        refine WL.eff rfl (OP.storeAgg inf33.choose_spec.1 (by rw [inf33.choose_spec.2]; rfl) rfl rfl (m_all _ _ _ _ _ _ _) hR rfl ?_)
        intro w7 hc7 hs7 hR
        have hC := hC.then hc7 (fun k hk e => by omega)
        refine WL.op (by decide) (R.assign rfl) ?_
        refine WL.next ?_
        refine CW.ret ?_
        refine EW.thenRet ?_
        exact EW.retCT (.inl rfl) rfl rfl rfl (cs := Msg.cells ⟨0, false, false, false, 0, [], 0, [], []⟩ (.slice none 0 0) (.slice none 0 0)) Tryd.underlying33 rfl sz33 (fun j u hj => cell_at hR (by rw [List.getElem?_toArray]; exact hj)) ⟨hC, by show MatchRes _ _ _ _ _ _ (some M) _ _; unfold MatchRes; simp only; rw [if_neg (by unfold passT; simp [*])]; rfl⟩
      · skip
        refine WL.op (by decide) (R.pickF rfl rfl) ?_
        refine WL.op (by decide) (R.move rfl) ?_
        refine WL.gop (by decide) rfl rfl rfl (R.move rfl) ?_
        refine WL.gop (by decide) rfl rfl rfl (FA29_5 rfl) ?_
        refine WL.gop (by decide) rfl rfl rfl (R.load Tryd.underlying3 rfl rfl (cell_at hT (Tr.at21 h16))) ?_
        refine WL.gsplit _ (by decide) rfl rfl rfl (R.neqD rfl rfl) (fun h3 => ?_) (fun h3 => ?_)
        · skip
          refine WL.op (by decide) (R.pickF rfl rfl) ?_
          refine WL.op (by decide) (R.move rfl) ?_
          refine WL.pass (by decide) rfl rfl rfl ?_
          refine WL.pass (by decide) rfl rfl rfl ?_
          refine WL.pass (by decide) rfl rfl rfl ?_
          refine WL.pass (by decide) rfl rfl rfl ?_
          refine WL.passU (by decide) rfl rfl ?_
          refine WL.passU (by decide) rfl rfl ?_
          refine WL.passU (by decide) rfl rfl ?_
          refine WL.passU (by decide) rfl rfl ?_
          refine WL.pass (by decide) rfl rfl rfl ?_
          refine WL.op (by decide) (R.pickT rfl rfl) ?_
          refine WL.next ?_
          refine CW.condT rfl ?_
          refine CW.rseq ?_
          refine WL.op (by decide) (R.build (parts := []) (vals := []) rfl (fun w => build33_0 w)) ?_
          refine WL.eff rfl (OP.storeAgg inf33.choose_spec.1 (by rw [inf33.choose_spec.2]; rfl) rfl rfl (m_all _ _ _ _ _ _ _) hR rfl ?_)
          intro w7 hc7 hs7 hR
          have hC := hC.then hc7 (fun k hk e => by omega)
          refine WL.op (by decide) (R.assign rfl) ?_
          refine WL.next ?_
          refine CW.ret ?_
          refine EW.thenRet ?_
          exact EW.retCT (.inl rfl) rfl rfl rfl (cs := Msg.cells ⟨0, false, false, false, 0, [], 0, [], []⟩ (.slice none 0 0) (.slice none 0 0)) Tryd.underlying33 rfl sz33 (fun j u hj => cell_at hR (by rw [List.getElem?_toArray]; exact hj)) ⟨hC, by show MatchRes _ _ _ _ _ _ (some M) _ _; unfold MatchRes; simp only; rw [if_neg (by unfold passT; simp [*])]; rfl⟩
        · skip
          refine WL.op (by decide) (R.pickF rfl rfl) ?_
          refine WL.op (by decide) (R.move rfl) ?_
          refine WL.gop (by decide) rfl rfl rfl (FA29_7 rfl) ?_
          cases hgr : t.group
          · skip
            refine WL.gop (by decide) rfl rfl rfl (R.load (v := .bool false) Tryd.underlying4 rfl rfl (cell_at hT ((Tr.at23 h16).trans (by rw [hgr])))) ?_
            refine WL.gop (by decide) rfl rfl rfl (R.not rfl) ?_
            refine WL.gop (by decide) rfl rfl rfl (R.move rfl) ?_
            refine WL.gop (by decide) rfl rfl rfl (R.loadAgg1 (cs := frm.map u8v) Tryd.underlying27 rfl (by rw [List.length_map, hf16]; exact sz27) rfl (fun j u hj => cell_at hF (by rw [Nat.zero_add, List.getElem?_toArray]; exact hj))) ?_
            refine WL.gop (by decide) rfl rfl rfl (FA29_3 rfl) ?_
            refine WL.gop (by decide) rfl rfl rfl (R.loadAgg1 (cs := t.to.map u8v) Tryd.underlying27 rfl (by rw [List.length_map, h16]; exact sz27) rfl (fun j u hj => cell_at hT (by rw [Nat.zero_add]; exact Tr.atTo hj))) ?_
            by_cases hto : frm = t.to
            · skip
              refine WL.gop (by decide) rfl rfl rfl (R.neq27 (c := false) (a := frm) (b := t.to) hf16 h16 rfl rfl (by simp [hto])) ?_
              refine WL.gop (by decide) rfl rfl rfl (R.pickT rfl rfl) ?_
              refine WL.op (by decide) (R.pickF rfl rfl) ?_
              refine WL.next ?_
              refine CW.condF rfl ?_
              refine CW.skip ?_
              refine EW.next ?_
              refine CW.seq ?_
              rcases ans4 (a := M.reply) (p := M.id = t.id) (q := M.qname = t.qname ∧ M.qtype = t.qtype) with h1 | ⟨h1, h2⟩ | ⟨h1, h2, h3⟩ | ⟨h1, h2, h3⟩
              · skip
                refine CW.draw (fun w0 => w0.heap[bm]? = some (.cells (M.cells (.slice Aa M.ans.length ca) (.slice Ab M.auth.length cb)).toArray 33 (0, 0)) ∧ w0.heap[bt]? = some (.cells t.cells.toArray 29 (0, 0))) (by kernel_rfl) ?_
                refine AH.take 0 rfl (by kernel_rfl) (by kernel_rfl) (by kernel_rfl) (fun _ _ _ _ h => h) ⟨hBm, hT⟩ (by decide) (fun w hS => R.loadAgg1 (cs := M.cells (.slice Aa M.ans.length ca) (.slice Ab M.auth.length cb)) Tryd.underlying33 rfl sz33 rfl (fun j u hj => cell_at hS.1 (by rw [Nat.zero_add, List.getElem?_toArray]; exact hj))) ?_
                refine AH.take 1 rfl (by kernel_rfl) (by kernel_rfl) (by kernel_rfl) (fun _ _ _ _ h => h) ⟨hBm, hT⟩ (by decide) (fun w hS => FA33_1 rfl) ?_
                refine AH.take 2 rfl (by kernel_rfl) (by kernel_rfl) (by kernel_rfl) (fun _ _ _ _ h => h) ⟨hBm, hT⟩ (by decide) (fun w hS => R.load (v := .bool false) Tryd.underlying4 rfl rfl (cell_at hS.1 (show _ = some (Value.bool false) from congrArg (fun b => some (Value.bool b)) h1))) ?_
                refine AH.take 3 rfl (by kernel_rfl) (by kernel_rfl) (by kernel_rfl) (fun _ _ _ _ h => h) ⟨hBm, hT⟩ (by decide) (fun w hS => R.move rfl) ?_
                refine AH.pass 4 rfl (by kernel_rfl) (by kernel_rfl) (by kernel_rfl) (fun _ _ _ _ h => h) ⟨hBm, hT⟩ (by decide) rfl rfl rfl ?_
                refine AH.pass 5 rfl (by kernel_rfl) (by kernel_rfl) (by kernel_rfl) (fun _ _ _ _ h => h) ⟨hBm, hT⟩ (by decide) rfl rfl rfl ?_
                refine AH.pass 6 rfl (by kernel_rfl) (by kernel_rfl) (by kernel_rfl) (fun _ _ _ _ h => h) ⟨hBm, hT⟩ (by decide) rfl rfl rfl ?_
                refine AH.pass 7 rfl (by kernel_rfl) (by kernel_rfl) (by kernel_rfl) (fun _ _ _ _ h => h) ⟨hBm, hT⟩ (by decide) rfl rfl rfl ?_
                refine AH.pass 8 rfl (by kernel_rfl) (by kernel_rfl) (by kernel_rfl) (fun _ _ _ _ h => h) ⟨hBm, hT⟩ (by decide) rfl rfl rfl ?_
                refine AH.take 9 rfl (by kernel_rfl) (by kernel_rfl) (by kernel_rfl) (fun _ _ _ _ h => h) ⟨hBm, hT⟩ (by decide) (fun w hS => R.pickF rfl rfl) ?_
                refine AH.take 10 rfl (by kernel_rfl) (by kernel_rfl) (by kernel_rfl) (fun _ _ _ _ h => h) ⟨hBm, hT⟩ (by decide) (fun w hS => R.move rfl) ?_
                refine AH.pass 11 rfl (by kernel_rfl) (by kernel_rfl) (by kernel_rfl) (fun _ _ _ _ h => h) ⟨hBm, hT⟩ (by decide) rfl rfl rfl ?_
                refine AH.pass 12 rfl (by kernel_rfl) (by kernel_rfl) (by kernel_rfl) (fun _ _ _ _ h => h) ⟨hBm, hT⟩ (by decide) rfl rfl rfl ?_
                refine AH.pass 13 rfl (by kernel_rfl) (by kernel_rfl) (by kernel_rfl) (fun _ _ _ _ h => h) ⟨hBm, hT⟩ (by decide) rfl rfl rfl ?_
                refine AH.pass 14 rfl (by kernel_rfl) (by kernel_rfl) (by kernel_rfl) (fun _ _ _ _ h => h) ⟨hBm, hT⟩ (by decide) rfl rfl rfl ?_
                refine AH.pass 15 rfl (by kernel_rfl) (by kernel_rfl) (by kernel_rfl) (fun _ _ _ _ h => h) ⟨hBm, hT⟩ (by decide) rfl rfl rfl ?_
                refine AH.take 16 rfl (by kernel_rfl) (by kernel_rfl) (by kernel_rfl) (fun _ _ _ _ h => h) ⟨hBm, hT⟩ (by decide) (fun w hS => R.pickF rfl rfl) ?_
                refine AH.eff 17 (by kernel_rfl) rfl rfl (OP.storeAgg inf33.choose_spec.1 (by rw [inf33.choose_spec.2]; rfl) rfl rfl (m_all _ _ _ _ _ _ _) hR rfl ?_)
                intro w7 hc7 hs7 hR
                have hC := (hC.trans (Chg.drew _ _)).then hc7 (fun k hk e => by omega)
                have hC2 : Chg (fun k => k = br) w4 w7 := ((hc46.trans (Chg.drew _ _)).mono (fun _ _ e => e.elim)).then hc7 (fun k hk e => e)
                have hS2 := (show _ ∧ _ from ⟨hc7.at hBm (fun e => by omega), hc7.at hT (fun e => by omega)⟩)
                refine ⟨hS2, ?_⟩
                refine AH.take 18 rfl (by kernel_rfl) (by kernel_rfl) (by kernel_rfl) (fun _ _ _ _ h => h) hS2 (by decide) (fun w hS => R.assign rfl) ?_
                refine AH.done (by kernel_rfl) ?_
                have hans : ansT t M = false := by unfold ansT; simp [h1]
                refine EW.next ?_
                refine CW.ret ?_
                exact EW.retCT (.inl rfl) rfl rfl rfl (cs := M.cells (.slice Aa M.ans.length ca) (.slice Ab M.auth.length cb)) Tryd.underlying33 rfl sz33 (fun j u hj => cell_at hR (by rw [List.getElem?_toArray]; exact hj)) ⟨hC, by show MatchRes _ _ _ _ _ _ (some M) _ _; unfold MatchRes; simp only; rw [if_pos (by unfold passT; rw [decide_eq_true (show link = t.link by omega), decide_eq_true (show gen = t.gen by omega), decide_eq_true (show port = t.port by omega)]; simp [*])]; exact ⟨_, by rw [show ansT t M = _ from hans], _, _, rfl, hva.kept hC2 (fun k hk e => by have := hfa k hk; omega), hvb.kept hC2 (fun k hk e => by have := hfb k hk; omega), fun k hk => by have := hfa k hk; have := hc13.size; omega, fun k hk => by have := hfb k hk; have := hc13.size; omega⟩⟩
              · skip
                refine CW.draw (fun w0 => w0.heap[bm]? = some (.cells (M.cells (.slice Aa M.ans.length ca) (.slice Ab M.auth.length cb)).toArray 33 (0, 0)) ∧ w0.heap[bt]? = some (.cells t.cells.toArray 29 (0, 0))) (by kernel_rfl) ?_
                refine AH.take 0 rfl (by kernel_rfl) (by kernel_rfl) (by kernel_rfl) (fun _ _ _ _ h => h) ⟨hBm, hT⟩ (by decide) (fun w hS => R.loadAgg1 (cs := M.cells (.slice Aa M.ans.length ca) (.slice Ab M.auth.length cb)) Tryd.underlying33 rfl sz33 rfl (fun j u hj => cell_at hS.1 (by rw [Nat.zero_add, List.getElem?_toArray]; exact hj))) ?_
                refine AH.take 1 rfl (by kernel_rfl) (by kernel_rfl) (by kernel_rfl) (fun _ _ _ _ h => h) ⟨hBm, hT⟩ (by decide) (fun w hS => FA33_1 rfl) ?_
                refine AH.take 2 rfl (by kernel_rfl) (by kernel_rfl) (by kernel_rfl) (fun _ _ _ _ h => h) ⟨hBm, hT⟩ (by decide) (fun w hS => R.load (v := .bool true) Tryd.underlying4 rfl rfl (cell_at hS.1 (show _ = some (Value.bool true) from congrArg (fun b => some (Value.bool b)) h1))) ?_
                refine AH.take 3 rfl (by kernel_rfl) (by kernel_rfl) (by kernel_rfl) (fun _ _ _ _ h => h) ⟨hBm, hT⟩ (by decide) (fun w hS => R.move rfl) ?_
                refine AH.takeG 4 rfl (by kernel_rfl) (by kernel_rfl) (by kernel_rfl) (fun _ _ _ _ h => h) ⟨hBm, hT⟩ (by decide) rfl rfl rfl (fun w hS => FA33_0 rfl) ?_
                refine AH.takeG 5 rfl (by kernel_rfl) (by kernel_rfl) (by kernel_rfl) (fun _ _ _ _ h => h) ⟨hBm, hT⟩ (by decide) rfl rfl rfl (fun w hS => R.load Tryd.underlying3 rfl rfl (cell_at hS.1 rfl)) ?_
                refine AH.takeG 6 rfl (by kernel_rfl) (by kernel_rfl) (by kernel_rfl) (fun _ _ _ _ h => h) ⟨hBm, hT⟩ (by decide) rfl rfl rfl (fun w hS => FA29_4 rfl) ?_
                refine AH.takeG 7 rfl (by kernel_rfl) (by kernel_rfl) (by kernel_rfl) (fun _ _ _ _ h => h) ⟨hBm, hT⟩ (by decide) rfl rfl rfl (fun w hS => R.load Tryd.underlying3 rfl rfl (cell_at hS.2 (Tr.at20 h16))) ?_
                refine AH.takeG 8 rfl (by kernel_rfl) (by kernel_rfl) (by kernel_rfl) (fun _ _ _ _ h => h) ⟨hBm, hT⟩ (by decide) rfl rfl rfl (fun w hS => R.eql rfl rfl (decide_eq_false h2)) ?_
                refine AH.take 9 rfl (by kernel_rfl) (by kernel_rfl) (by kernel_rfl) (fun _ _ _ _ h => h) ⟨hBm, hT⟩ (by decide) (fun w hS => R.pickT rfl rfl) ?_
                refine AH.take 10 rfl (by kernel_rfl) (by kernel_rfl) (by kernel_rfl) (fun _ _ _ _ h => h) ⟨hBm, hT⟩ (by decide) (fun w hS => R.move rfl) ?_
                refine AH.pass 11 rfl (by kernel_rfl) (by kernel_rfl) (by kernel_rfl) (fun _ _ _ _ h => h) ⟨hBm, hT⟩ (by decide) rfl rfl rfl ?_
                refine AH.pass 12 rfl (by kernel_rfl) (by kernel_rfl) (by kernel_rfl) (fun _ _ _ _ h => h) ⟨hBm, hT⟩ (by decide) rfl rfl rfl ?_
                refine AH.pass 13 rfl (by kernel_rfl) (by kernel_rfl) (by kernel_rfl) (fun _ _ _ _ h => h) ⟨hBm, hT⟩ (by decide) rfl rfl rfl ?_
                refine AH.pass 14 rfl (by kernel_rfl) (by kernel_rfl) (by kernel_rfl) (fun _ _ _ _ h => h) ⟨hBm, hT⟩ (by decide) rfl rfl rfl ?_
                refine AH.pass 15 rfl (by kernel_rfl) (by kernel_rfl) (by kernel_rfl) (fun _ _ _ _ h => h) ⟨hBm, hT⟩ (by decide) rfl rfl rfl ?_
                refine AH.take 16 rfl (by kernel_rfl) (by kernel_rfl) (by kernel_rfl) (fun _ _ _ _ h => h) ⟨hBm, hT⟩ (by decide) (fun w hS => R.pickF rfl rfl) ?_
                refine AH.eff 17 (by kernel_rfl) rfl rfl (OP.storeAgg inf33.choose_spec.1 (by rw [inf33.choose_spec.2]; rfl) rfl rfl (m_all _ _ _ _ _ _ _) hR rfl ?_)
                intro w7 hc7 hs7 hR
                have hC := (hC.trans (Chg.drew _ _)).then hc7 (fun k hk e => by omega)
                have hC2 : Chg (fun k => k = br) w4 w7 := ((hc46.trans (Chg.drew _ _)).mono (fun _ _ e => e.elim)).then hc7 (fun k hk e => e)
                have hS2 := (show _ ∧ _ from ⟨hc7.at hBm (fun e => by omega), hc7.at hT (fun e => by omega)⟩)
                refine ⟨hS2, ?_⟩
                refine AH.take 18 rfl (by kernel_rfl) (by kernel_rfl) (by kernel_rfl) (fun _ _ _ _ h => h) hS2 (by decide) (fun w hS => R.assign rfl) ?_
                refine AH.done (by kernel_rfl) ?_
                have hans : ansT t M = false := by unfold ansT; simp [h2]
                refine EW.next ?_
                refine CW.ret ?_
                exact EW.retCT (.inl rfl) rfl rfl rfl (cs := M.cells (.slice Aa M.ans.length ca) (.slice Ab M.auth.length cb)) Tryd.underlying33 rfl sz33 (fun j u hj => cell_at hR (by rw [List.getElem?_toArray]; exact hj)) ⟨hC, by show MatchRes _ _ _ _ _ _ (some M) _ _; unfold MatchRes; simp only; rw [if_pos (by unfold passT; rw [decide_eq_true (show link = t.link by omega), decide_eq_true (show gen = t.gen by omega), decide_eq_true (show port = t.port by omega)]; simp [*])]; exact ⟨_, by rw [show ansT t M = _ from hans], _, _, rfl, hva.kept hC2 (fun k hk e => by have := hfa k hk; omega), hvb.kept hC2 (fun k hk e => by have := hfb k hk; omega), fun k hk => by have := hfa k hk; have := hc13.size; omega, fun k hk => by have := hfb k hk; have := hc13.size; omega⟩⟩
              · skip
                refine CW.draw (fun w0 => w0.heap[bm]? = some (.cells (M.cells (.slice Aa M.ans.length ca) (.slice Ab M.auth.length cb)).toArray 33 (0, 0)) ∧ w0.heap[bt]? = some (.cells t.cells.toArray 29 (0, 0))) (by kernel_rfl) ?_
                refine AH.take 0 rfl (by kernel_rfl) (by kernel_rfl) (by kernel_rfl) (fun _ _ _ _ h => h) ⟨hBm, hT⟩ (by decide) (fun w hS => R.loadAgg1 (cs := M.cells (.slice Aa M.ans.length ca) (.slice Ab M.auth.length cb)) Tryd.underlying33 rfl sz33 rfl (fun j u hj => cell_at hS.1 (by rw [Nat.zero_add, List.getElem?_toArray]; exact hj))) ?_
                refine AH.take 1 rfl (by kernel_rfl) (by kernel_rfl) (by kernel_rfl) (fun _ _ _ _ h => h) ⟨hBm, hT⟩ (by decide) (fun w hS => FA33_1 rfl) ?_
                refine AH.take 2 rfl (by kernel_rfl) (by kernel_rfl) (by kernel_rfl) (fun _ _ _ _ h => h) ⟨hBm, hT⟩ (by decide) (fun w hS => R.load (v := .bool true) Tryd.underlying4 rfl rfl (cell_at hS.1 (show _ = some (Value.bool true) from congrArg (fun b => some (Value.bool b)) h1))) ?_
                refine AH.take 3 rfl (by kernel_rfl) (by kernel_rfl) (by kernel_rfl) (fun _ _ _ _ h => h) ⟨hBm, hT⟩ (by decide) (fun w hS => R.move rfl) ?_
                refine AH.takeG 4 rfl (by kernel_rfl) (by kernel_rfl) (by kernel_rfl) (fun _ _ _ _ h => h) ⟨hBm, hT⟩ (by decide) rfl rfl rfl (fun w hS => FA33_0 rfl) ?_
                refine AH.takeG 5 rfl (by kernel_rfl) (by kernel_rfl) (by kernel_rfl) (fun _ _ _ _ h => h) ⟨hBm, hT⟩ (by decide) rfl rfl rfl (fun w hS => R.load Tryd.underlying3 rfl rfl (cell_at hS.1 rfl)) ?_
                refine AH.takeG 6 rfl (by kernel_rfl) (by kernel_rfl) (by kernel_rfl) (fun _ _ _ _ h => h) ⟨hBm, hT⟩ (by decide) rfl rfl rfl (fun w hS => FA29_4 rfl) ?_
                refine AH.takeG 7 rfl (by kernel_rfl) (by kernel_rfl) (by kernel_rfl) (fun _ _ _ _ h => h) ⟨hBm, hT⟩ (by decide) rfl rfl rfl (fun w hS => R.load Tryd.underlying3 rfl rfl (cell_at hS.2 (Tr.at20 h16))) ?_
                refine AH.takeG 8 rfl (by kernel_rfl) (by kernel_rfl) (by kernel_rfl) (fun _ _ _ _ h => h) ⟨hBm, hT⟩ (by decide) rfl rfl rfl (fun w hS => R.eql rfl rfl (decide_eq_true h2)) ?_
                refine AH.take 9 rfl (by kernel_rfl) (by kernel_rfl) (by kernel_rfl) (fun _ _ _ _ h => h) ⟨hBm, hT⟩ (by decide) (fun w hS => R.pickT rfl rfl) ?_
                refine AH.take 10 rfl (by kernel_rfl) (by kernel_rfl) (by kernel_rfl) (fun _ _ _ _ h => h) ⟨hBm, hT⟩ (by decide) (fun w hS => R.move rfl) ?_
                refine AH.takeG 11 rfl (by kernel_rfl) (by kernel_rfl) (by kernel_rfl) (fun _ _ _ _ h => h) ⟨hBm, hT⟩ (by decide) rfl rfl rfl (fun w hS => FA33_5 rfl) ?_
                refine AH.takeG 12 rfl (by kernel_rfl) (by kernel_rfl) (by kernel_rfl) (fun _ _ _ _ h => h) ⟨hBm, hT⟩ (by decide) rfl rfl rfl (fun w hS => R.loadAgg1 (cs := [sv M.qname, .int .i64 M.qtype]) Tryd.underlying25 rfl sz25 rfl (fun j u hj => cell_at hS.1 (by match j, hj with | 0, hj => exact hj | 1, hj => exact hj))) ?_
                refine AH.takeG 13 rfl (by kernel_rfl) (by kernel_rfl) (by kernel_rfl) (fun _ _ _ _ h => h) ⟨hBm, hT⟩ (by decide) rfl rfl rfl (fun w hS => FA29_0 rfl) ?_
                refine AH.takeG 14 rfl (by kernel_rfl) (by kernel_rfl) (by kernel_rfl) (fun _ _ _ _ h => h) ⟨hBm, hT⟩ (by decide) rfl rfl rfl (fun w hS => R.loadAgg1 (cs := [sv t.qname, .int .i64 t.qtype]) Tryd.underlying25 rfl sz25 rfl (fun j u hj => cell_at hS.2 (by match j, hj with | 0, hj => exact hj | 1, hj => exact hj))) ?_
                refine AH.takeG 15 rfl (by kernel_rfl) (by kernel_rfl) (by kernel_rfl) (fun _ _ _ _ h => h) ⟨hBm, hT⟩ (by decide) rfl rfl rfl (fun w hS => R.eql25 (a := M.qname) (b := t.qname) (m := M.qtype) (n := t.qtype) rfl rfl (decide_eq_false h3)) ?_
                refine AH.take 16 rfl (by kernel_rfl) (by kernel_rfl) (by kernel_rfl) (fun _ _ _ _ h => h) ⟨hBm, hT⟩ (by decide) (fun w hS => R.pickT rfl rfl) ?_
                refine AH.eff 17 (by kernel_rfl) rfl rfl (OP.storeAgg inf33.choose_spec.1 (by rw [inf33.choose_spec.2]; rfl) rfl rfl (m_all _ _ _ _ _ _ _) hR rfl ?_)
                intro w7 hc7 hs7 hR
                have hC := (hC.trans (Chg.drew _ _)).then hc7 (fun k hk e => by omega)
                have hC2 : Chg (fun k => k = br) w4 w7 := ((hc46.trans (Chg.drew _ _)).mono (fun _ _ e => e.elim)).then hc7 (fun k hk e => e)
                have hS2 := (show _ ∧ _ from ⟨hc7.at hBm (fun e => by omega), hc7.at hT (fun e => by omega)⟩)
                refine ⟨hS2, ?_⟩
                refine AH.take 18 rfl (by kernel_rfl) (by kernel_rfl) (by kernel_rfl) (fun _ _ _ _ h => h) hS2 (by decide) (fun w hS => R.assign rfl) ?_
                refine AH.done (by kernel_rfl) ?_
                have hans : ansT t M = false := by unfold ansT; simp; intro _ _ h4; exact fun h5 => h3 ⟨h4, h5⟩
                refine EW.next ?_
                refine CW.ret ?_
                exact EW.retCT (.inl rfl) rfl rfl rfl (cs := M.cells (.slice Aa M.ans.length ca) (.slice Ab M.auth.length cb)) Tryd.underlying33 rfl sz33 (fun j u hj => cell_at hR (by rw [List.getElem?_toArray]; exact hj)) ⟨hC, by show MatchRes _ _ _ _ _ _ (some M) _ _; unfold MatchRes; simp only; rw [if_pos (by unfold passT; rw [decide_eq_true (show link = t.link by omega), decide_eq_true (show gen = t.gen by omega), decide_eq_true (show port = t.port by omega)]; simp [*])]; exact ⟨_, by rw [show ansT t M = _ from hans], _, _, rfl, hva.kept hC2 (fun k hk e => by have := hfa k hk; omega), hvb.kept hC2 (fun k hk e => by have := hfb k hk; omega), fun k hk => by have := hfa k hk; have := hc13.size; omega, fun k hk => by have := hfb k hk; have := hc13.size; omega⟩⟩
              · skip
                refine CW.draw (fun w0 => w0.heap[bm]? = some (.cells (M.cells (.slice Aa M.ans.length ca) (.slice Ab M.auth.length cb)).toArray 33 (0, 0)) ∧ w0.heap[bt]? = some (.cells t.cells.toArray 29 (0, 0))) (by kernel_rfl) ?_
                refine AH.take 0 rfl (by kernel_rfl) (by kernel_rfl) (by kernel_rfl) (fun _ _ _ _ h => h) ⟨hBm, hT⟩ (by decide) (fun w hS => R.loadAgg1 (cs := M.cells (.slice Aa M.ans.length ca) (.slice Ab M.auth.length cb)) Tryd.underlying33 rfl sz33 rfl (fun j u hj => cell_at hS.1 (by rw [Nat.zero_add, List.getElem?_toArray]; exact hj))) ?_
                refine AH.take 1 rfl (by kernel_rfl) (by kernel_rfl) (by kernel_rfl) (fun _ _ _ _ h => h) ⟨hBm, hT⟩ (by decide) (fun w hS => FA33_1 rfl) ?_
                refine AH.take 2 rfl (by kernel_rfl) (by kernel_rfl) (by kernel_rfl) (fun _ _ _ _ h => h) ⟨hBm, hT⟩ (by decide) (fun w hS => R.load (v := .bool true) Tryd.underlying4 rfl rfl (cell_at hS.1 (show _ = some (Value.bool true) from congrArg (fun b => some (Value.bool b)) h1))) ?_
                refine AH.take 3 rfl (by kernel_rfl) (by kernel_rfl) (by kernel_rfl) (fun _ _ _ _ h => h) ⟨hBm, hT⟩ (by decide) (fun w hS => R.move rfl) ?_
                refine AH.takeG 4 rfl (by kernel_rfl) (by kernel_rfl) (by kernel_rfl) (fun _ _ _ _ h => h) ⟨hBm, hT⟩ (by decide) rfl rfl rfl (fun w hS => FA33_0 rfl) ?_
                refine AH.takeG 5 rfl (by kernel_rfl) (by kernel_rfl) (by kernel_rfl) (fun _ _ _ _ h => h) ⟨hBm, hT⟩ (by decide) rfl rfl rfl (fun w hS => R.load Tryd.underlying3 rfl rfl (cell_at hS.1 rfl)) ?_
                refine AH.takeG 6 rfl (by kernel_rfl) (by kernel_rfl) (by kernel_rfl) (fun _ _ _ _ h => h) ⟨hBm, hT⟩ (by decide) rfl rfl rfl (fun w hS => FA29_4 rfl) ?_
                refine AH.takeG 7 rfl (by kernel_rfl) (by kernel_rfl) (by kernel_rfl) (fun _ _ _ _ h => h) ⟨hBm, hT⟩ (by decide) rfl rfl rfl (fun w hS => R.load Tryd.underlying3 rfl rfl (cell_at hS.2 (Tr.at20 h16))) ?_
                refine AH.takeG 8 rfl (by kernel_rfl) (by kernel_rfl) (by kernel_rfl) (fun _ _ _ _ h => h) ⟨hBm, hT⟩ (by decide) rfl rfl rfl (fun w hS => R.eql rfl rfl (decide_eq_true h2)) ?_
                refine AH.take 9 rfl (by kernel_rfl) (by kernel_rfl) (by kernel_rfl) (fun _ _ _ _ h => h) ⟨hBm, hT⟩ (by decide) (fun w hS => R.pickT rfl rfl) ?_
                refine AH.take 10 rfl (by kernel_rfl) (by kernel_rfl) (by kernel_rfl) (fun _ _ _ _ h => h) ⟨hBm, hT⟩ (by decide) (fun w hS => R.move rfl) ?_
                refine AH.takeG 11 rfl (by kernel_rfl) (by kernel_rfl) (by kernel_rfl) (fun _ _ _ _ h => h) ⟨hBm, hT⟩ (by decide) rfl rfl rfl (fun w hS => FA33_5 rfl) ?_
                refine AH.takeG 12 rfl (by kernel_rfl) (by kernel_rfl) (by kernel_rfl) (fun _ _ _ _ h => h) ⟨hBm, hT⟩ (by decide) rfl rfl rfl (fun w hS => R.loadAgg1 (cs := [sv M.qname, .int .i64 M.qtype]) Tryd.underlying25 rfl sz25 rfl (fun j u hj => cell_at hS.1 (by match j, hj with | 0, hj => exact hj | 1, hj => exact hj))) ?_
                refine AH.takeG 13 rfl (by kernel_rfl) (by kernel_rfl) (by kernel_rfl) (fun _ _ _ _ h => h) ⟨hBm, hT⟩ (by decide) rfl rfl rfl (fun w hS => FA29_0 rfl) ?_
                refine AH.takeG 14 rfl (by kernel_rfl) (by kernel_rfl) (by kernel_rfl) (fun _ _ _ _ h => h) ⟨hBm, hT⟩ (by decide) rfl rfl rfl (fun w hS => R.loadAgg1 (cs := [sv t.qname, .int .i64 t.qtype]) Tryd.underlying25 rfl sz25 rfl (fun j u hj => cell_at hS.2 (by match j, hj with | 0, hj => exact hj | 1, hj => exact hj))) ?_
                refine AH.takeG 15 rfl (by kernel_rfl) (by kernel_rfl) (by kernel_rfl) (fun _ _ _ _ h => h) ⟨hBm, hT⟩ (by decide) rfl rfl rfl (fun w hS => R.eql25 (a := M.qname) (b := t.qname) (m := M.qtype) (n := t.qtype) rfl rfl (decide_eq_true h3)) ?_
                refine AH.take 16 rfl (by kernel_rfl) (by kernel_rfl) (by kernel_rfl) (fun _ _ _ _ h => h) ⟨hBm, hT⟩ (by decide) (fun w hS => R.pickT rfl rfl) ?_
                refine AH.eff 17 (by kernel_rfl) rfl rfl (OP.storeAgg inf33.choose_spec.1 (by rw [inf33.choose_spec.2]; rfl) rfl rfl (m_all _ _ _ _ _ _ _) hR rfl ?_)
                intro w7 hc7 hs7 hR
                have hC := (hC.trans (Chg.drew _ _)).then hc7 (fun k hk e => by omega)
                have hC2 : Chg (fun k => k = br) w4 w7 := ((hc46.trans (Chg.drew _ _)).mono (fun _ _ e => e.elim)).then hc7 (fun k hk e => e)
                have hS2 := (show _ ∧ _ from ⟨hc7.at hBm (fun e => by omega), hc7.at hT (fun e => by omega)⟩)
                refine ⟨hS2, ?_⟩
                refine AH.take 18 rfl (by kernel_rfl) (by kernel_rfl) (by kernel_rfl) (fun _ _ _ _ h => h) hS2 (by decide) (fun w hS => R.assign rfl) ?_
                refine AH.done (by kernel_rfl) ?_
                have hans : ansT t M = true := by unfold ansT; simp [h1, h2, h3.1, h3.2]
                refine EW.next ?_
                refine CW.ret ?_
                exact EW.retCT (.inl rfl) rfl rfl rfl (cs := M.cells (.slice Aa M.ans.length ca) (.slice Ab M.auth.length cb)) Tryd.underlying33 rfl sz33 (fun j u hj => cell_at hR (by rw [List.getElem?_toArray]; exact hj)) ⟨hC, by show MatchRes _ _ _ _ _ _ (some M) _ _; unfold MatchRes; simp only; rw [if_pos (by unfold passT; rw [decide_eq_true (show link = t.link by omega), decide_eq_true (show gen = t.gen by omega), decide_eq_true (show port = t.port by omega)]; simp [*])]; exact ⟨_, by rw [show ansT t M = _ from hans], _, _, rfl, hva.kept hC2 (fun k hk e => by have := hfa k hk; omega), hvb.kept hC2 (fun k hk e => by have := hfb k hk; omega), fun k hk => by have := hfa k hk; have := hc13.size; omega, fun k hk => by have := hfb k hk; have := hc13.size; omega⟩⟩
            · skip
              refine WL.gop (by decide) rfl rfl rfl (R.neq27 (c := true) (a := frm) (b := t.to) hf16 h16 rfl rfl (by simp [hto])) ?_
              refine WL.gop (by decide) rfl rfl rfl (R.pickT rfl rfl) ?_
              refine WL.op (by decide) (R.pickF rfl rfl) ?_
              refine WL.next ?_
              refine CW.condT rfl ?_
              refine CW.rseq ?_
              refine WL.op (by decide) (R.build (parts := []) (vals := []) rfl (fun w => build33_0 w)) ?_
              refine WL.eff rfl (OP.storeAgg inf33.choose_spec.1 (by rw [inf33.choose_spec.2]; rfl) rfl rfl (m_all _ _ _ _ _ _ _) hR rfl ?_)
              intro w7 hc7 hs7 hR
              have hC := hC.then hc7 (fun k hk e => by omega)
              refine WL.op (by decide) (R.assign rfl) ?_
              refine WL.next ?_
              refine CW.ret ?_
              refine EW.thenRet ?_
              exact EW.retCT (.inl rfl) rfl rfl rfl (cs := Msg.cells ⟨0, false, false, false, 0, [], 0, [], []⟩ (.slice none 0 0) (.slice none 0 0)) Tryd.underlying33 rfl sz33 (fun j u hj => cell_at hR (by rw [List.getElem?_toArray]; exact hj)) ⟨hC, by show MatchRes _ _ _ _ _ _ (some M) _ _; unfold MatchRes; simp only; rw [if_neg (by unfold passT; simp [*])]; rfl⟩
          · skip
            refine WL.gop (by decide) rfl rfl rfl (R.load (v := .bool true) Tryd.underlying4 rfl rfl (cell_at hT ((Tr.at23 h16).trans (by rw [hgr])))) ?_
            refine WL.gop (by decide) rfl rfl rfl (R.not rfl) ?_
            refine WL.gop (by decide) rfl rfl rfl (R.move rfl) ?_
            refine WL.pass (by decide) rfl rfl rfl ?_
            refine WL.pass (by decide) rfl rfl rfl ?_
            refine WL.pass (by decide) rfl rfl rfl ?_
            refine WL.pass (by decide) rfl rfl rfl ?_
            refine WL.gop (by decide) rfl rfl rfl (R.pickF rfl rfl) ?_
            refine WL.op (by decide) (R.pickF rfl rfl) ?_
            refine WL.next ?_
            refine CW.condF rfl ?_
            refine CW.skip ?_
            refine EW.next ?_
            refine CW.seq ?_
            rcases ans4 (a := M.reply) (p := M.id = t.id) (q := M.qname = t.qname ∧ M.qtype = t.qtype) with h1 | ⟨h1, h2⟩ | ⟨h1, h2, h3⟩ | ⟨h1, h2, h3⟩
            · skip
              refine CW.draw (fun w0 => w0.heap[bm]? = some (.cells (M.cells (.slice Aa M.ans.length ca) (.slice Ab M.auth.length cb)).toArray 33 (0, 0)) ∧ w0.heap[bt]? = some (.cells t.cells.toArray 29 (0, 0))) (by kernel_rfl) ?_
              refine AH.take 0 rfl (by kernel_rfl) (by kernel_rfl) (by kernel_rfl) (fun _ _ _ _ h => h) ⟨hBm, hT⟩ (by decide) (fun w hS => R.loadAgg1 (cs := M.cells (.slice Aa M.ans.length ca) (.slice Ab M.auth.length cb)) Tryd.underlying33 rfl sz33 rfl (fun j u hj => cell_at hS.1 (by rw [Nat.zero_add, List.getElem?_toArray]; exact hj))) ?_
              refine AH.take 1 rfl (by kernel_rfl) (by kernel_rfl) (by kernel_rfl) (fun _ _ _ _ h => h) ⟨hBm, hT⟩ (by decide) (fun w hS => FA33_1 rfl) ?_
              refine AH.take 2 rfl (by kernel_rfl) (by kernel_rfl) (by kernel_rfl) (fun _ _ _ _ h => h) ⟨hBm, hT⟩ (by decide) (fun w hS => R.load (v := .bool false) Tryd.underlying4 rfl rfl (cell_at hS.1 (show _ = some (Value.bool false) from congrArg (fun b => some (Value.bool b)) h1))) ?_
              refine AH.take 3 rfl (by kernel_rfl) (by kernel_rfl) (by kernel_rfl) (fun _ _ _ _ h => h) ⟨hBm, hT⟩ (by decide) (fun w hS => R.move rfl) ?_
              refine AH.pass 4 rfl (by kernel_rfl) (by kernel_rfl) (by kernel_rfl) (fun _ _ _ _ h => h) ⟨hBm, hT⟩ (by decide) rfl rfl rfl ?_
              refine AH.pass 5 rfl (by kernel_rfl) (by kernel_rfl) (by kernel_rfl) (fun _ _ _ _ h => h) ⟨hBm, hT⟩ (by decide) rfl rfl rfl ?_
              refine AH.pass 6 rfl (by kernel_rfl) (by kernel_rfl) (by kernel_rfl) (fun _ _ _ _ h => h) ⟨hBm, hT⟩ (by decide) rfl rfl rfl ?_
              refine AH.pass 7 rfl (by kernel_rfl) (by kernel_rfl) (by kernel_rfl) (fun _ _ _ _ h => h) ⟨hBm, hT⟩ (by decide) rfl rfl rfl ?_
              refine AH.pass 8 rfl (by kernel_rfl) (by kernel_rfl) (by kernel_rfl) (fun _ _ _ _ h => h) ⟨hBm, hT⟩ (by decide) rfl rfl rfl ?_
              refine AH.take 9 rfl (by kernel_rfl) (by kernel_rfl) (by kernel_rfl) (fun _ _ _ _ h => h) ⟨hBm, hT⟩ (by decide) (fun w hS => R.pickF rfl rfl) ?_
              refine AH.take 10 rfl (by kernel_rfl) (by kernel_rfl) (by kernel_rfl) (fun _ _ _ _ h => h) ⟨hBm, hT⟩ (by decide) (fun w hS => R.move rfl) ?_
              refine AH.pass 11 rfl (by kernel_rfl) (by kernel_rfl) (by kernel_rfl) (fun _ _ _ _ h => h) ⟨hBm, hT⟩ (by decide) rfl rfl rfl ?_
              refine AH.pass 12 rfl (by kernel_rfl) (by kernel_rfl) (by kernel_rfl) (fun _ _ _ _ h => h) ⟨hBm, hT⟩ (by decide) rfl rfl rfl ?_
              refine AH.pass 13 rfl (by kernel_rfl) (by kernel_rfl) (by kernel_rfl) (fun _ _ _ _ h => h) ⟨hBm, hT⟩ (by decide) rfl rfl rfl ?_
              refine AH.pass 14 rfl (by kernel_rfl) (by kernel_rfl) (by kernel_rfl) (fun _ _ _ _ h => h) ⟨hBm, hT⟩ (by decide) rfl rfl rfl ?_
              refine AH.pass 15 rfl (by kernel_rfl) (by kernel_rfl) (by kernel_rfl) (fun _ _ _ _ h => h) ⟨hBm, hT⟩ (by decide) rfl rfl rfl ?_
              refine AH.take 16 rfl (by kernel_rfl) (by kernel_rfl) (by kernel_rfl) (fun _ _ _ _ h => h) ⟨hBm, hT⟩ (by decide) (fun w hS => R.pickF rfl rfl) ?_
              refine AH.eff 17 (by kernel_rfl) rfl rfl (OP.storeAgg inf33.choose_spec.1 (by rw [inf33.choose_spec.2]; rfl) rfl rfl (m_all _ _ _ _ _ _ _) hR rfl ?_)
              intro w7 hc7 hs7 hR
              have hC := (hC.trans (Chg.drew _ _)).then hc7 (fun k hk e => by omega)
              have hC2 : Chg (fun k => k = br) w4 w7 := ((hc46.trans (Chg.drew _ _)).mono (fun _ _ e => e.elim)).then hc7 (fun k hk e => e)
              have hS2 := (show _ ∧ _ from ⟨hc7.at hBm (fun e => by omega), hc7.at hT (fun e => by omega)⟩)
              refine ⟨hS2, ?_⟩
              refine AH.take 18 rfl (by kernel_rfl) (by kernel_rfl) (by kernel_rfl) (fun _ _ _ _ h => h) hS2 (by decide) (fun w hS => R.assign rfl) ?_
              refine AH.done (by kernel_rfl) ?_
              have hans : ansT t M = false := by unfold ansT; simp [h1]
              refine EW.next ?_
              refine CW.ret ?_
              exact EW.retCT (.inl rfl) rfl rfl rfl (cs := M.cells (.slice Aa M.ans.length ca) (.slice Ab M.auth.length cb)) Tryd.underlying33 rfl sz33 (fun j u hj => cell_at hR (by rw [List.getElem?_toArray]; exact hj)) ⟨hC, by show MatchRes _ _ _ _ _ _ (some M) _ _; unfold MatchRes; simp only; rw [if_pos (by unfold passT; rw [decide_eq_true (show link = t.link by omega), decide_eq_true (show gen = t.gen by omega), decide_eq_true (show port = t.port by omega)]; simp [*])]; exact ⟨_, by rw [show ansT t M = _ from hans], _, _, rfl, hva.kept hC2 (fun k hk e => by have := hfa k hk; omega), hvb.kept hC2 (fun k hk e => by have := hfb k hk; omega), fun k hk => by have := hfa k hk; have := hc13.size; omega, fun k hk => by have := hfb k hk; have := hc13.size; omega⟩⟩
            · skip
              refine CW.draw (fun w0 => w0.heap[bm]? = some (.cells (M.cells (.slice Aa M.ans.length ca) (.slice Ab M.auth.length cb)).toArray 33 (0, 0)) ∧ w0.heap[bt]? = some (.cells t.cells.toArray 29 (0, 0))) (by kernel_rfl) ?_
              refine AH.take 0 rfl (by kernel_rfl) (by kernel_rfl) (by kernel_rfl) (fun _ _ _ _ h => h) ⟨hBm, hT⟩ (by decide) (fun w hS => R.loadAgg1 (cs := M.cells (.slice Aa M.ans.length ca) (.slice Ab M.auth.length cb)) Tryd.underlying33 rfl sz33 rfl (fun j u hj => cell_at hS.1 (by rw [Nat.zero_add, List.getElem?_toArray]; exact hj))) ?_
              refine AH.take 1 rfl (by kernel_rfl) (by kernel_rfl) (by kernel_rfl) (fun _ _ _ _ h => h) ⟨hBm, hT⟩ (by decide) (fun w hS => FA33_1 rfl) ?_
              refine AH.take 2 rfl (by kernel_rfl) (by kernel_rfl) (by kernel_rfl) (fun _ _ _ _ h => h) ⟨hBm, hT⟩ (by decide) (fun w hS => R.load (v := .bool true) Tryd.underlying4 rfl rfl (cell_at hS.1 (show _ = some (Value.bool true) from congrArg (fun b => some (Value.bool b)) h1))) ?_
              refine AH.take 3 rfl (by kernel_rfl) (by kernel_rfl) (by kernel_rfl) (fun _ _ _ _ h => h) ⟨hBm, hT⟩ (by decide) (fun w hS => R.move rfl) ?_
              refine AH.takeG 4 rfl (by kernel_rfl) (by kernel_rfl) (by kernel_rfl) (fun _ _ _ _ h => h) ⟨hBm, hT⟩ (by decide) rfl rfl rfl (fun w hS => FA33_0 rfl) ?_
              refine AH.takeG 5 rfl (by kernel_rfl) (by kernel_rfl) (by kernel_rfl) (fun _ _ _ _ h => h) ⟨hBm, hT⟩ (by decide) rfl rfl rfl (fun w hS => R.load Tryd.underlying3 rfl rfl (cell_at hS.1 rfl)) ?_
              refine AH.takeG 6 rfl (by kernel_rfl) (by kernel_rfl) (by kernel_rfl) (fun _ _ _ _ h => h) ⟨hBm, hT⟩ (by decide) rfl rfl rfl (fun w hS => FA29_4 rfl) ?_
              refine AH.takeG 7 rfl (by kernel_rfl) (by kernel_rfl) (by kernel_rfl) (fun _ _ _ _ h => h) ⟨hBm, hT⟩ (by decide) rfl rfl rfl (fun w hS => R.load Tryd.underlying3 rfl rfl (cell_at hS.2 (Tr.at20 h16))) ?_
              refine AH.takeG 8 rfl (by kernel_rfl) (by kernel_rfl) (by kernel_rfl) (fun _ _ _ _ h => h) ⟨hBm, hT⟩ (by decide) rfl rfl rfl (fun w hS => R.eql rfl rfl (decide_eq_false h2)) ?_
              refine AH.take 9 rfl (by kernel_rfl) (by kernel_rfl) (by kernel_rfl) (fun _ _ _ _ h => h) ⟨hBm, hT⟩ (by decide) (fun w hS => R.pickT rfl rfl) ?_
              refine AH.take 10 rfl (by kernel_rfl) (by kernel_rfl) (by kernel_rfl) (fun _ _ _ _ h => h) ⟨hBm, hT⟩ (by decide) (fun w hS => R.move rfl) ?_
              refine AH.pass 11 rfl (by kernel_rfl) (by kernel_rfl) (by kernel_rfl) (fun _ _ _ _ h => h) ⟨hBm, hT⟩ (by decide) rfl rfl rfl ?_
              refine AH.pass 12 rfl (by kernel_rfl) (by kernel_rfl) (by kernel_rfl) (fun _ _ _ _ h => h) ⟨hBm, hT⟩ (by decide) rfl rfl rfl ?_
              refine AH.pass 13 rfl (by kernel_rfl) (by kernel_rfl) (by kernel_rfl) (fun _ _ _ _ h => h) ⟨hBm, hT⟩ (by decide) rfl rfl rfl ?_
              refine AH.pass 14 rfl (by kernel_rfl) (by kernel_rfl) (by kernel_rfl) (fun _ _ _ _ h => h) ⟨hBm, hT⟩ (by decide) rfl rfl rfl ?_
              refine AH.pass 15 rfl (by kernel_rfl) (by kernel_rfl) (by kernel_rfl) (fun _ _ _ _ h => h) ⟨hBm, hT⟩ (by decide) rfl rfl rfl ?_
              refine AH.take 16 rfl (by kernel_rfl) (by kernel_rfl) (by kernel_rfl) (fun _ _ _ _ h => h) ⟨hBm, hT⟩ (by decide) (fun w hS => R.pickF rfl rfl) ?_
              refine AH.eff 17 (by kernel_rfl) rfl rfl (OP.storeAgg inf33.choose_spec.1 (by rw [inf33.choose_spec.2]; rfl) rfl rfl (m_all _ _ _ _ _ _ _) hR rfl ?_)
              intro w7 hc7 hs7 hR
              have hC := (hC.trans (Chg.drew _ _)).then hc7 (fun k hk e => by omega)
              have hC2 : Chg (fun k => k = br) w4 w7 := ((hc46.trans (Chg.drew _ _)).mono (fun _ _ e => e.elim)).then hc7 (fun k hk e => e)
              have hS2 := (show _ ∧ _ from ⟨hc7.at hBm (fun e => by omega), hc7.at hT (fun e => by omega)⟩)
              refine ⟨hS2, ?_⟩
              refine AH.take 18 rfl (by kernel_rfl) (by kernel_rfl) (by kernel_rfl) (fun _ _ _ _ h => h) hS2 (by decide) (fun w hS => R.assign rfl) ?_
              refine AH.done (by kernel_rfl) ?_
              have hans : ansT t M = false := by unfold ansT; simp [h2]
              refine EW.next ?_
              refine CW.ret ?_
              exact EW.retCT (.inl rfl) rfl rfl rfl (cs := M.cells (.slice Aa M.ans.length ca) (.slice Ab M.auth.length cb)) Tryd.underlying33 rfl sz33 (fun j u hj => cell_at hR (by rw [List.getElem?_toArray]; exact hj)) ⟨hC, by show MatchRes _ _ _ _ _ _ (some M) _ _; unfold MatchRes; simp only; rw [if_pos (by unfold passT; rw [decide_eq_true (show link = t.link by omega), decide_eq_true (show gen = t.gen by omega), decide_eq_true (show port = t.port by omega)]; simp [*])]; exact ⟨_, by rw [show ansT t M = _ from hans], _, _, rfl, hva.kept hC2 (fun k hk e => by have := hfa k hk; omega), hvb.kept hC2 (fun k hk e => by have := hfb k hk; omega), fun k hk => by have := hfa k hk; have := hc13.size; omega, fun k hk => by have := hfb k hk; have := hc13.size; omega⟩⟩
            · skip
              refine CW.draw (fun w0 => w0.heap[bm]? = some (.cells (M.cells (.slice Aa M.ans.length ca) (.slice Ab M.auth.length cb)).toArray 33 (0, 0)) ∧ w0.heap[bt]? = some (.cells t.cells.toArray 29 (0, 0))) (by kernel_rfl) ?_
              refine AH.take 0 rfl (by kernel_rfl) (by kernel_rfl) (by kernel_rfl) (fun _ _ _ _ h => h) ⟨hBm, hT⟩ (by decide) (fun w hS => R.loadAgg1 (cs := M.cells (.slice Aa M.ans.length ca) (.slice Ab M.auth.length cb)) Tryd.underlying33 rfl sz33 rfl (fun j u hj => cell_at hS.1 (by rw [Nat.zero_add, List.getElem?_toArray]; exact hj))) ?_
              refine AH.take 1 rfl (by kernel_rfl) (by kernel_rfl) (by kernel_rfl) (fun _ _ _ _ h => h) ⟨hBm, hT⟩ (by decide) (fun w hS => FA33_1 rfl) ?_
              refine AH.take 2 rfl (by kernel_rfl) (by kernel_rfl) (by kernel_rfl) (fun _ _ _ _ h => h) ⟨hBm, hT⟩ (by decide) (fun w hS => R.load (v := .bool true) Tryd.underlying4 rfl rfl (cell_at hS.1 (show _ = some (Value.bool true) from congrArg (fun b => some (Value.bool b)) h1))) ?_
              refine AH.take 3 rfl (by kernel_rfl) (by kernel_rfl) (by kernel_rfl) (fun _ _ _ _ h => h) ⟨hBm, hT⟩ (by decide) (fun w hS => R.move rfl) ?_
              refine AH.takeG 4 rfl (by kernel_rfl) (by kernel_rfl) (by kernel_rfl) (fun _ _ _ _ h => h) ⟨hBm, hT⟩ (by decide) rfl rfl rfl (fun w hS => FA33_0 rfl) ?_
              refine AH.takeG 5 rfl (by kernel_rfl) (by kernel_rfl) (by kernel_rfl) (fun _ _ _ _ h => h) ⟨hBm, hT⟩ (by decide) rfl rfl rfl (fun w hS => R.load Tryd.underlying3 rfl rfl (cell_at hS.1 rfl)) ?_
              refine AH.takeG 6 rfl (by kernel_rfl) (by kernel_rfl) (by kernel_rfl) (fun _ _ _ _ h => h) ⟨hBm, hT⟩ (by decide) rfl rfl rfl (fun w hS => FA29_4 rfl) ?_
              refine AH.takeG 7 rfl (by kernel_rfl) (by kernel_rfl) (by kernel_rfl) (fun _ _ _ _ h => h) ⟨hBm, hT⟩ (by decide) rfl rfl rfl (fun w hS => R.load Tryd.underlying3 rfl rfl (cell_at hS.2 (Tr.at20 h16))) ?_
              refine AH.takeG 8 rfl (by kernel_rfl) (by kernel_rfl) (by kernel_rfl) (fun _ _ _ _ h => h) ⟨hBm, hT⟩ (by decide) rfl rfl rfl (fun w hS => R.eql rfl rfl (decide_eq_true h2)) ?_
              refine AH.take 9 rfl (by kernel_rfl) (by kernel_rfl) (by kernel_rfl) (fun _ _ _ _ h => h) ⟨hBm, hT⟩ (by decide) (fun w hS => R.pickT rfl rfl) ?_
              refine AH.take 10 rfl (by kernel_rfl) (by kernel_rfl) (by kernel_rfl) (fun _ _ _ _ h => h) ⟨hBm, hT⟩ (by decide) (fun w hS => R.move rfl) ?_
              refine AH.takeG 11 rfl (by kernel_rfl) (by kernel_rfl) (by kernel_rfl) (fun _ _ _ _ h => h) ⟨hBm, hT⟩ (by decide) rfl rfl rfl (fun w hS => FA33_5 rfl) ?_
              refine AH.takeG 12 rfl (by kernel_rfl) (by kernel_rfl) (by kernel_rfl) (fun _ _ _ _ h => h) ⟨hBm, hT⟩ (by decide) rfl rfl rfl (fun w hS => R.loadAgg1 (cs := [sv M.qname, .int .i64 M.qtype]) Tryd.underlying25 rfl sz25 rfl (fun j u hj => cell_at hS.1 (by match j, hj with | 0, hj => exact hj | 1, hj => exact hj))) ?_
              refine AH.takeG 13 rfl (by kernel_rfl) (by kernel_rfl) (by kernel_rfl) (fun _ _ _ _ h => h) ⟨hBm, hT⟩ (by decide) rfl rfl rfl (fun w hS => FA29_0 rfl) ?_
              refine AH.takeG 14 rfl (by kernel_rfl) (by kernel_rfl) (by kernel_rfl) (fun _ _ _ _ h => h) ⟨hBm, hT⟩ (by decide) rfl rfl rfl (fun w hS => R.loadAgg1 (cs := [sv t.qname, .int .i64 t.qtype]) Tryd.underlying25 rfl sz25 rfl (fun j u hj => cell_at hS.2 (by match j, hj with | 0, hj => exact hj | 1, hj => exact hj))) ?_
              refine AH.takeG 15 rfl (by kernel_rfl) (by kernel_rfl) (by kernel_rfl) (fun _ _ _ _ h => h) ⟨hBm, hT⟩ (by decide) rfl rfl rfl (fun w hS => R.eql25 (a := M.qname) (b := t.qname) (m := M.qtype) (n := t.qtype) rfl rfl (decide_eq_false h3)) ?_
              refine AH.take 16 rfl (by kernel_rfl) (by kernel_rfl) (by kernel_rfl) (fun _ _ _ _ h => h) ⟨hBm, hT⟩ (by decide) (fun w hS => R.pickT rfl rfl) ?_
              refine AH.eff 17 (by kernel_rfl) rfl rfl (OP.storeAgg inf33.choose_spec.1 (by rw [inf33.choose_spec.2]; rfl) rfl rfl (m_all _ _ _ _ _ _ _) hR rfl ?_)
              intro w7 hc7 hs7 hR
              have hC := (hC.trans (Chg.drew _ _)).then hc7 (fun k hk e => by omega)
              have hC2 : Chg (fun k => k = br) w4 w7 := ((hc46.trans (Chg.drew _ _)).mono (fun _ _ e => e.elim)).then hc7 (fun k hk e => e)
              have hS2 := (show _ ∧ _ from ⟨hc7.at hBm (fun e => by omega), hc7.at hT (fun e => by omega)⟩)
              refine ⟨hS2, ?_⟩
              refine AH.take 18 rfl (by kernel_rfl) (by kernel_rfl) (by kernel_rfl) (fun _ _ _ _ h => h) hS2 (by decide) (fun w hS => R.assign rfl) ?_
              refine AH.done (by kernel_rfl) ?_
              have hans : ansT t M = false := by unfold ansT; simp; intro _ _ h4; exact fun h5 => h3 ⟨h4, h5⟩
              refine EW.next ?_
              refine CW.ret ?_
              exact EW.retCT (.inl rfl) rfl rfl rfl (cs := M.cells (.slice Aa M.ans.length ca) (.slice Ab M.auth.length cb)) Tryd.underlying33 rfl sz33 (fun j u hj => cell_at hR (by rw [List.getElem?_toArray]; exact hj)) ⟨hC, by show MatchRes _ _ _ _ _ _ (some M) _ _; unfold MatchRes; simp only; rw [if_pos (by unfold passT; rw [decide_eq_true (show link = t.link by omega), decide_eq_true (show gen = t.gen by omega), decide_eq_true (show port = t.port by omega)]; simp [*])]; exact ⟨_, by rw [show ansT t M = _ from hans], _, _, rfl, hva.kept hC2 (fun k hk e => by have := hfa k hk; omega), hvb.kept hC2 (fun k hk e => by have := hfb k hk; omega), fun k hk => by have := hfa k hk; have := hc13.size; omega, fun k hk => by have := hfb k hk; have := hc13.size; omega⟩⟩
            · skip
              refine CW.draw (fun w0 => w0.heap[bm]? = some (.cells (M.cells (.slice Aa M.ans.length ca) (.slice Ab M.auth.length cb)).toArray 33 (0, 0)) ∧ w0.heap[bt]? = some (.cells t.cells.toArray 29 (0, 0))) (by kernel_rfl) ?_
              refine AH.take 0 rfl (by kernel_rfl) (by kernel_rfl) (by kernel_rfl) (fun _ _ _ _ h => h) ⟨hBm, hT⟩ (by decide) (fun w hS => R.loadAgg1 (cs := M.cells (.slice Aa M.ans.length ca) (.slice Ab M.auth.length cb)) Tryd.underlying33 rfl sz33 rfl (fun j u hj => cell_at hS.1 (by rw [Nat.zero_add, List.getElem?_toArray]; exact hj))) ?_
              refine AH.take 1 rfl (by kernel_rfl) (by kernel_rfl) (by kernel_rfl) (fun _ _ _ _ h => h) ⟨hBm, hT⟩ (by decide) (fun w hS => FA33_1 rfl) ?_
              refine AH.take 2 rfl (by kernel_rfl) (by kernel_rfl) (by kernel_rfl) (fun _ _ _ _ h => h) ⟨hBm, hT⟩ (by decide) (fun w hS => R.load (v := .bool true) Tryd.underlying4 rfl rfl (cell_at hS.1 (show _ = some (Value.bool true) from congrArg (fun b => some (Value.bool b)) h1))) ?_
              refine AH.take 3 rfl (by kernel_rfl) (by kernel_rfl) (by kernel_rfl) (fun _ _ _ _ h => h) ⟨hBm, hT⟩ (by decide) (fun w hS => R.move rfl) ?_
              refine AH.takeG 4 rfl (by kernel_rfl) (by kernel_rfl) (by kernel_rfl) (fun _ _ _ _ h => h) ⟨hBm, hT⟩ (by decide) rfl rfl rfl (fun w hS => FA33_0 rfl) ?_
              refine AH.takeG 5 rfl (by kernel_rfl) (by kernel_rfl) (by kernel_rfl) (fun _ _ _ _ h => h) ⟨hBm, hT⟩ (by decide) rfl rfl rfl (fun w hS => R.load Tryd.underlying3 rfl rfl (cell_at hS.1 rfl)) ?_
              refine AH.takeG 6 rfl (by kernel_rfl) (by kernel_rfl) (by kernel_rfl) (fun _ _ _ _ h => h) ⟨hBm, hT⟩ (by decide) rfl rfl rfl (fun w hS => FA29_4 rfl) ?_
              refine AH.takeG 7 rfl (by kernel_rfl) (by kernel_rfl) (by kernel_rfl) (fun _ _ _ _ h => h) ⟨hBm, hT⟩ (by decide) rfl rfl rfl (fun w hS => R.load Tryd.underlying3 rfl rfl (cell_at hS.2 (Tr.at20 h16))) ?_
              refine AH.takeG 8 rfl (by kernel_rfl) (by kernel_rfl) (by kernel_rfl) (fun _ _ _ _ h => h) ⟨hBm, hT⟩ (by decide) rfl rfl rfl (fun w hS => R.eql rfl rfl (decide_eq_true h2)) ?_
              refine AH.take 9 rfl (by kernel_rfl) (by kernel_rfl) (by kernel_rfl) (fun _ _ _ _ h => h) ⟨hBm, hT⟩ (by decide) (fun w hS => R.pickT rfl rfl) ?_
              refine AH.take 10 rfl (by kernel_rfl) (by kernel_rfl) (by kernel_rfl) (fun _ _ _ _ h => h) ⟨hBm, hT⟩ (by decide) (fun w hS => R.move rfl) ?_
              refine AH.takeG 11 rfl (by kernel_rfl) (by kernel_rfl) (by kernel_rfl) (fun _ _ _ _ h => h) ⟨hBm, hT⟩ (by decide) rfl rfl rfl (fun w hS => FA33_5 rfl) ?_
              refine AH.takeG 12 rfl (by kernel_rfl) (by kernel_rfl) (by kernel_rfl) (fun _ _ _ _ h => h) ⟨hBm, hT⟩ (by decide) rfl rfl rfl (fun w hS => R.loadAgg1 (cs := [sv M.qname, .int .i64 M.qtype]) Tryd.underlying25 rfl sz25 rfl (fun j u hj => cell_at hS.1 (by match j, hj with | 0, hj => exact hj | 1, hj => exact hj))) ?_
              refine AH.takeG 13 rfl (by kernel_rfl) (by kernel_rfl) (by kernel_rfl) (fun _ _ _ _ h => h) ⟨hBm, hT⟩ (by decide) rfl rfl rfl (fun w hS => FA29_0 rfl) ?_
              refine AH.takeG 14 rfl (by kernel_rfl) (by kernel_rfl) (by kernel_rfl) (fun _ _ _ _ h => h) ⟨hBm, hT⟩ (by decide) rfl rfl rfl (fun w hS => R.loadAgg1 (cs := [sv t.qname, .int .i64 t.qtype]) Tryd.underlying25 rfl sz25 rfl (fun j u hj => cell_at hS.2 (by match j, hj with | 0, hj => exact hj | 1, hj => exact hj))) ?_
              refine AH.takeG 15 rfl (by kernel_rfl) (by kernel_rfl) (by kernel_rfl) (fun _ _ _ _ h => h) ⟨hBm, hT⟩ (by decide) rfl rfl rfl (fun w hS => R.eql25 (a := M.qname) (b := t.qname) (m := M.qtype) (n := t.qtype) rfl rfl (decide_eq_true h3)) ?_
              refine AH.take 16 rfl (by kernel_rfl) (by kernel_rfl) (by kernel_rfl) (fun _ _ _ _ h => h) ⟨hBm, hT⟩ (by decide) (fun w hS => R.pickT rfl rfl) ?_
              refine AH.eff 17 (by kernel_rfl) rfl rfl (OP.storeAgg inf33.choose_spec.1 (by rw [inf33.choose_spec.2]; rfl) rfl rfl (m_all _ _ _ _ _ _ _) hR rfl ?_)
              intro w7 hc7 hs7 hR
              have hC := (hC.trans (Chg.drew _ _)).then hc7 (fun k hk e => by omega)
              have hC2 : Chg (fun k => k = br) w4 w7 := ((hc46.trans (Chg.drew _ _)).mono (fun _ _ e => e.elim)).then hc7 (fun k hk e => e)
              have hS2 := (show _ ∧ _ from ⟨hc7.at hBm (fun e => by omega), hc7.at hT (fun e => by omega)⟩)
              refine ⟨hS2, ?_⟩
              refine AH.take 18 rfl (by kernel_rfl) (by kernel_rfl) (by kernel_rfl) (fun _ _ _ _ h => h) hS2 (by decide) (fun w hS => R.assign rfl) ?_
              refine AH.done (by kernel_rfl) ?_
              have hans : ansT t M = true := by unfold ansT; simp [h1, h2, h3.1, h3.2]
              refine EW.next ?_
              refine CW.ret ?_
              exact EW.retCT (.inl rfl) rfl rfl rfl (cs := M.cells (.slice Aa M.ans.length ca) (.slice Ab M.auth.length cb)) Tryd.underlying33 rfl sz33 (fun j u hj => cell_at hR (by rw [List.getElem?_toArray]; exact hj)) ⟨hC, by show MatchRes _ _ _ _ _ _ (some M) _ _; unfold MatchRes; simp only; rw [if_pos (by unfold passT; rw [decide_eq_true (show link = t.link by omega), decide_eq_true (show gen = t.gen by omega), decide_eq_true (show port = t.port by omega)]; simp [*])]; exact ⟨_, by rw [show ansT t M = _ from hans], _, _, rfl, hva.kept hC2 (fun k hk e => by have := hfa k hk; omega), hvb.kept hC2 (fun k hk e => by have := hfb k hk; omega), fun k hk => by have := hfa k hk; have := hc13.size; omega, fun k hk => by have := hfb k hk; have := hc13.size; omega⟩⟩
end Go.Proofs.YthcpjcgjmdfpjaaDoor

namespace Go.Proofs.YthcpjcgjmdfpjaaDoor
open Go Go.RowKit
set_option maxRecDepth 100000
set_option maxHeartbeats 4000000

/-- Are they the same? -/
noncomputable def sameM (a b : Msg) : Bool := @decide (a = b) (Classical.propDecidable _)
theorem sameM_no {a b : Msg} (h : ¬ a = b) : sameM a b = false := by unfold sameM; simp [h]
theorem sameM_self (a : Msg) : sameM a a = true := by unfold sameM; simp
theorem sameM_eq {a b : Msg} (h : sameM a b = true) : a = b := by unfold sameM at h; simpa using h
theorem sameM_yes {a b : Msg} (h1 : a.id = b.id) (h2 : a.reply = b.reply) (h3 : a.trunc = b.trunc) (h4 : a.recur = b.recur) (h5 : a.code = b.code) (h6 : a.qname = b.qname ∧ a.qtype = b.qtype) (h7 : a.ans = b.ans) (h8 : a.auth = b.auth) : sameM a b = true := by
  have : a = b := by
    cases a; cases b
    simp only at h1 h2 h3 h4 h5 h6 h7 h8
    obtain ⟨h6, h9⟩ := h6
    subst h1 h2 h3 h4 h5 h6 h7 h8 h9
    rfl
  rw [this]; exact sameM_self b
theorem R.neqBD {l : Env} {w : World} {x y : Operand} {ty : TypeId} {a b : Bool} (hx : ev l x = some (.bool a)) (hy : ev l y = some (.bool b)) : Runs Tryd.prog l (.binOp .neq 4 x y ty) w (.bool (decide (¬ a = b))) w :=
  R.neqB hx hy (by cases a <;> cases b <;> rfl)
theorem R.neq25D {l : Env} {w : World} {x y : Operand} {ty : TypeId} {a b : List UInt8} {m n : Int} (hx : ev l x = some (.agg #[sv a, .int .i64 m])) (hy : ev l y = some (.agg #[sv b, .int .i64 n])) : Runs Tryd.prog l (.binOp .neq 25 x y ty) w (.bool (decide (¬ (a = b ∧ m = n)))) w :=
  R.neq25 hx hy (by by_cases h : a = b ∧ m = n <;> simp [h])
theorem take_next {α : Type} {p q : List α} {j : Nat} {x y : α} (h : p.take j = q.take j) (hx : p[j]? = some x) (hy : q[j]? = some y) (e : x = y) : p.take (j + 1) = q.take (j + 1) := by
  rw [List.take_add_one, List.take_add_one, h, hx, hy, e]
theorem same_any (a b : Msg) (va vb : Value) (w0 : World) (ha : MV w0 va a) (hb : MV w0 vb b) (hn1 : a.ans.length ≤ 1099511627776) (hn2 : a.auth.length ≤ 1099511627776) :
    Calls Tryd.prog 25 #[va, vb] w0 fun e w' => e = .returned (.bool (sameM a b)) ∧ Chg (fun _ => False) w0 w' := by
  obtain ⟨ua, ub, rfl, hAa, hBa⟩ := ha
  obtain ⟨uc, ud, rfl, hAb, hBb⟩ := hb
  obtain ⟨Aa, ca, rfl, _⟩ := hAa.form
  obtain ⟨Ba, da, rfl, _⟩ := hBa.form
  obtain ⟨Ab, cb, rfl, _⟩ := hAb.form
  obtain ⟨Bb, db, rfl, _⟩ := hBb.form
  refine calls_cw (args := [.agg (a.cells (.slice Aa a.ans.length ca) (.slice Ba a.auth.length da)).toArray, .agg (b.cells (.slice Ab b.ans.length cb) (.slice Bb b.auth.length db)).toArray]) Tryd.func25 rfl rfl ?_
  show CW _ _ _ 101 [(0, .agg (a.cells (.slice Aa a.ans.length ca) (.slice Ba a.auth.length da)).toArray), (1, .agg (b.cells (.slice Ab b.ans.length cb) (.slice Bb b.auth.length db)).toArray)] w0
  refine CW.rseq ?_
  refine WL.eff rfl (OP.box (by decide) rfl ?_)
  intro w1 hc1 hs1 hA0
  obtain ⟨ba, he_ba⟩ : ∃ q, q = w0.heap.size := ⟨_, rfl⟩
  rw [← he_ba] at hA0 ⊢
  have hA := hA0
  refine WL.eff rfl (OP.box (by decide) rfl ?_)
  intro w2 hc2 hs2 hB0
  obtain ⟨bb, he_bb⟩ : ∃ q, q = w1.heap.size := ⟨_, rfl⟩
  rw [← he_bb] at hB0 ⊢
  have hB := hB0
  have hA := hc2.at hA (fun e => e)
  have hC := hc1.trans hc2
  have hAa := hAa.kept hC (fun _ _ e => e)
  have hBa := hBa.kept hC (fun _ _ e => e)
  have hAb := hAb.kept hC (fun _ _ e => e)
  have hBb := hBb.kept hC (fun _ _ e => e)
  refine WL.op (by decide) (R.assign rfl) ?_
  refine WL.next ?_
  refine CW.seq ?_
  refine CW.rseq ?_
  refine WL.op (by decide) (FA33_0 rfl) ?_
  refine WL.op (by decide) (R.load Tryd.underlying3 rfl rfl (cell_at hA rfl)) ?_
  refine WL.op (by decide) (FA33_0 rfl) ?_
  refine WL.op (by decide) (R.load Tryd.underlying3 rfl rfl (cell_at hB rfl)) ?_
  refine WL.neqS (by decide) rfl rfl (fun h1 => ?_) (fun h1 => ?_)
  · skip
    refine WL.op (by decide) (R.move rfl) ?_
    refine WL.pass (by decide) rfl rfl rfl ?_
    refine WL.pass (by decide) rfl rfl rfl ?_
    refine WL.pass (by decide) rfl rfl rfl ?_
    refine WL.pass (by decide) rfl rfl rfl ?_
    refine WL.pass (by decide) rfl rfl rfl ?_
    refine WL.op (by decide) (R.pickT rfl rfl) ?_
    refine WL.op (by decide) (R.move rfl) ?_
    refine WL.pass (by decide) rfl rfl rfl ?_
    refine WL.pass (by decide) rfl rfl rfl ?_
    refine WL.pass (by decide) rfl rfl rfl ?_
    refine WL.pass (by decide) rfl rfl rfl ?_
    refine WL.pass (by decide) rfl rfl rfl ?_
    refine WL.op (by decide) (R.pickT rfl rfl) ?_
    refine WL.op (by decide) (R.move rfl) ?_
    refine WL.pass (by decide) rfl rfl rfl ?_
    refine WL.pass (by decide) rfl rfl rfl ?_
    refine WL.pass (by decide) rfl rfl rfl ?_
    refine WL.pass (by decide) rfl rfl rfl ?_
    refine WL.pass (by decide) rfl rfl rfl ?_
    refine WL.op (by decide) (R.pickT rfl rfl) ?_
    refine WL.op (by decide) (R.move rfl) ?_
    refine WL.pass (by decide) rfl rfl rfl ?_
    refine WL.pass (by decide) rfl rfl rfl ?_
    refine WL.pass (by decide) rfl rfl rfl ?_
    refine WL.pass (by decide) rfl rfl rfl ?_
    refine WL.pass (by decide) rfl rfl rfl ?_
    refine WL.op (by decide) (R.pickT rfl rfl) ?_
    refine WL.op (by decide) (R.move rfl) ?_
    refine WL.pass (by decide) rfl rfl rfl ?_
    refine WL.pass (by decide) rfl rfl rfl ?_
    refine WL.pass (by decide) rfl rfl rfl ?_
    refine WL.pass (by decide) rfl rfl rfl ?_
    refine WL.pass (by decide) rfl rfl rfl ?_
    refine WL.op (by decide) (R.pickT rfl rfl) ?_
    refine WL.op (by decide) (R.move rfl) ?_
    refine WL.pass (by decide) rfl rfl rfl ?_
    refine WL.pass (by decide) rfl rfl rfl ?_
    refine WL.pass (by decide) rfl rfl rfl ?_
    refine WL.pass (by decide) rfl rfl rfl ?_
    refine WL.pass (by decide) rfl rfl rfl ?_
    refine WL.pass (by decide) rfl rfl rfl ?_
    refine WL.pass (by decide) rfl rfl rfl ?_
    refine WL.op (by decide) (R.pickT rfl rfl) ?_
    refine WL.op (by decide) (R.move rfl) ?_
    refine WL.pass (by decide) rfl rfl rfl ?_
    refine WL.pass (by decide) rfl rfl rfl ?_
    refine WL.pass (by decide) rfl rfl rfl ?_
    refine WL.pass (by decide) rfl rfl rfl ?_
    refine WL.pass (by decide) rfl rfl rfl ?_
    refine WL.pass (by decide) rfl rfl rfl ?_
    refine WL.pass (by decide) rfl rfl rfl ?_
    refine WL.op (by decide) (R.pickT rfl rfl) ?_
    refine WL.next ?_
    refine CW.condT rfl ?_
    refine CW.rseq ?_
    refine WL.op (by decide) (R.assign rfl) ?_
    refine WL.next ?_
    refine CW.ret ?_
    refine EW.thenRet ?_
    refine EW.ret1 (.inl rfl) rfl rfl ⟨congrArg (fun b => Ending.returned (.bool b)) (sameM_no (fun e => ?_)).symm, hC⟩
    subst e
    simp_all
  · skip
    refine WL.op (by decide) (R.move rfl) ?_
    refine WL.gop (by decide) rfl rfl rfl (FA33_1 rfl) ?_
    refine WL.gop (by decide) rfl rfl rfl (R.load Tryd.underlying4 rfl rfl (cell_at hA rfl)) ?_
    refine WL.gop (by decide) rfl rfl rfl (FA33_1 rfl) ?_
    refine WL.gop (by decide) rfl rfl rfl (R.load Tryd.underlying4 rfl rfl (cell_at hB rfl)) ?_
    refine WL.gsplit _ (by decide) rfl rfl rfl (R.neqBD (a := a.reply) (b := b.reply) rfl rfl) (fun h2 => ?_) (fun h2 => ?_)
    · skip
      refine WL.op (by decide) (R.pickF rfl rfl) ?_
      refine WL.op (by decide) (R.move rfl) ?_
      refine WL.pass (by decide) rfl rfl rfl ?_
      refine WL.pass (by decide) rfl rfl rfl ?_
      refine WL.pass (by decide) rfl rfl rfl ?_
      refine WL.pass (by decide) rfl rfl rfl ?_
      refine WL.pass (by decide) rfl rfl rfl ?_
      refine WL.op (by decide) (R.pickT rfl rfl) ?_
      refine WL.op (by decide) (R.move rfl) ?_
      refine WL.pass (by decide) rfl rfl rfl ?_
      refine WL.pass (by decide) rfl rfl rfl ?_
      refine WL.pass (by decide) rfl rfl rfl ?_
      refine WL.pass (by decide) rfl rfl rfl ?_
      refine WL.pass (by decide) rfl rfl rfl ?_
      refine WL.op (by decide) (R.pickT rfl rfl) ?_
      refine WL.op (by decide) (R.move rfl) ?_
      refine WL.pass (by decide) rfl rfl rfl ?_
      refine WL.pass (by decide) rfl rfl rfl ?_
      refine WL.pass (by decide) rfl rfl rfl ?_
      refine WL.pass (by decide) rfl rfl rfl ?_
      refine WL.pass (by decide) rfl rfl rfl ?_
      refine WL.op (by decide) (R.pickT rfl rfl) ?_
      refine WL.op (by decide) (R.move rfl) ?_
      refine WL.pass (by decide) rfl rfl rfl ?_
      refine WL.pass (by decide) rfl rfl rfl ?_
      refine WL.pass (by decide) rfl rfl rfl ?_
      refine WL.pass (by decide) rfl rfl rfl ?_
      refine WL.pass (by decide) rfl rfl rfl ?_
      refine WL.op (by decide) (R.pickT rfl rfl) ?_
      refine WL.op (by decide) (R.move rfl) ?_
      refine WL.pass (by decide) rfl rfl rfl ?_
      refine WL.pass (by decide) rfl rfl rfl ?_
      refine WL.pass (by decide) rfl rfl rfl ?_
      refine WL.pass (by decide) rfl rfl rfl ?_
      refine WL.pass (by decide) rfl rfl rfl ?_
      refine WL.pass (by decide) rfl rfl rfl ?_
      refine WL.pass (by decide) rfl rfl rfl ?_
      refine WL.op (by decide) (R.pickT rfl rfl) ?_
      refine WL.op (by decide) (R.move rfl) ?_
      refine WL.pass (by decide) rfl rfl rfl ?_
      refine WL.pass (by decide) rfl rfl rfl ?_
      refine WL.pass (by decide) rfl rfl rfl ?_
      refine WL.pass (by decide) rfl rfl rfl ?_
      refine WL.pass (by decide) rfl rfl rfl ?_
      refine WL.pass (by decide) rfl rfl rfl ?_
      refine WL.pass (by decide) rfl rfl rfl ?_
      refine WL.op (by decide) (R.pickT rfl rfl) ?_
      refine WL.next ?_
      refine CW.condT rfl ?_
      refine CW.rseq ?_
      refine WL.op (by decide) (R.assign rfl) ?_
      refine WL.next ?_
      refine CW.ret ?_
      refine EW.thenRet ?_
      refine EW.ret1 (.inl rfl) rfl rfl ⟨congrArg (fun b => Ending.returned (.bool b)) (sameM_no (fun e => ?_)).symm, hC⟩
      subst e
      simp_all
    · skip
      refine WL.op (by decide) (R.pickF rfl rfl) ?_
      refine WL.op (by decide) (R.move rfl) ?_
      refine WL.gop (by decide) rfl rfl rfl (FA33_2 rfl) ?_
      refine WL.gop (by decide) rfl rfl rfl (R.load Tryd.underlying4 rfl rfl (cell_at hA rfl)) ?_
      refine WL.gop (by decide) rfl rfl rfl (FA33_2 rfl) ?_
      refine WL.gop (by decide) rfl rfl rfl (R.load Tryd.underlying4 rfl rfl (cell_at hB rfl)) ?_
      refine WL.gsplit _ (by decide) rfl rfl rfl (R.neqBD (a := a.trunc) (b := b.trunc) rfl rfl) (fun h3 => ?_) (fun h3 => ?_)
      · skip
        refine WL.op (by decide) (R.pickF rfl rfl) ?_
        refine WL.op (by decide) (R.move rfl) ?_
        refine WL.pass (by decide) rfl rfl rfl ?_
        refine WL.pass (by decide) rfl rfl rfl ?_
        refine WL.pass (by decide) rfl rfl rfl ?_
        refine WL.pass (by decide) rfl rfl rfl ?_
        refine WL.pass (by decide) rfl rfl rfl ?_
        refine WL.op (by decide) (R.pickT rfl rfl) ?_
        refine WL.op (by decide) (R.move rfl) ?_
        refine WL.pass (by decide) rfl rfl rfl ?_
        refine WL.pass (by decide) rfl rfl rfl ?_
        refine WL.pass (by decide) rfl rfl rfl ?_
        refine WL.pass (by decide) rfl rfl rfl ?_
        refine WL.pass (by decide) rfl rfl rfl ?_
        refine WL.op (by decide) (R.pickT rfl rfl) ?_
        refine WL.op (by decide) (R.move rfl) ?_
        refine WL.pass (by decide) rfl rfl rfl ?_
        refine WL.pass (by decide) rfl rfl rfl ?_
        refine WL.pass (by decide) rfl rfl rfl ?_
        refine WL.pass (by decide) rfl rfl rfl ?_
        refine WL.pass (by decide) rfl rfl rfl ?_
        refine WL.op (by decide) (R.pickT rfl rfl) ?_
        refine WL.op (by decide) (R.move rfl) ?_
        refine WL.pass (by decide) rfl rfl rfl ?_
        refine WL.pass (by decide) rfl rfl rfl ?_
        refine WL.pass (by decide) rfl rfl rfl ?_
        refine WL.pass (by decide) rfl rfl rfl ?_
        refine WL.pass (by decide) rfl rfl rfl ?_
        refine WL.pass (by decide) rfl rfl rfl ?_
        refine WL.pass (by decide) rfl rfl rfl ?_
        refine WL.op (by decide) (R.pickT rfl rfl) ?_
        refine WL.op (by decide) (R.move rfl) ?_
        refine WL.pass (by decide) rfl rfl rfl ?_
        refine WL.pass (by decide) rfl rfl rfl ?_
        refine WL.pass (by decide) rfl rfl rfl ?_
        refine WL.pass (by decide) rfl rfl rfl ?_
        refine WL.pass (by decide) rfl rfl rfl ?_
        refine WL.pass (by decide) rfl rfl rfl ?_
        refine WL.pass (by decide) rfl rfl rfl ?_
        refine WL.op (by decide) (R.pickT rfl rfl) ?_
        refine WL.next ?_
        refine CW.condT rfl ?_
        refine CW.rseq ?_
        refine WL.op (by decide) (R.assign rfl) ?_
        refine WL.next ?_
        refine CW.ret ?_
        refine EW.thenRet ?_
        refine EW.ret1 (.inl rfl) rfl rfl ⟨congrArg (fun b => Ending.returned (.bool b)) (sameM_no (fun e => ?_)).symm, hC⟩
        subst e
        simp_all
      · skip
        refine WL.op (by decide) (R.pickF rfl rfl) ?_
        refine WL.op (by decide) (R.move rfl) ?_
        refine WL.gop (by decide) rfl rfl rfl (FA33_3 rfl) ?_
        refine WL.gop (by decide) rfl rfl rfl (R.load Tryd.underlying4 rfl rfl (cell_at hA rfl)) ?_
        refine WL.gop (by decide) rfl rfl rfl (FA33_3 rfl) ?_
        refine WL.gop (by decide) rfl rfl rfl (R.load Tryd.underlying4 rfl rfl (cell_at hB rfl)) ?_
        refine WL.gsplit _ (by decide) rfl rfl rfl (R.neqBD (a := a.recur) (b := b.recur) rfl rfl) (fun h4 => ?_) (fun h4 => ?_)
        · skip
          refine WL.op (by decide) (R.pickF rfl rfl) ?_
          refine WL.op (by decide) (R.move rfl) ?_
          refine WL.pass (by decide) rfl rfl rfl ?_
          refine WL.pass (by decide) rfl rfl rfl ?_
          refine WL.pass (by decide) rfl rfl rfl ?_
          refine WL.pass (by decide) rfl rfl rfl ?_
          refine WL.pass (by decide) rfl rfl rfl ?_
          refine WL.op (by decide) (R.pickT rfl rfl) ?_
          refine WL.op (by decide) (R.move rfl) ?_
          refine WL.pass (by decide) rfl rfl rfl ?_
          refine WL.pass (by decide) rfl rfl rfl ?_
          refine WL.pass (by decide) rfl rfl rfl ?_
          refine WL.pass (by decide) rfl rfl rfl ?_
          refine WL.pass (by decide) rfl rfl rfl ?_
          refine WL.op (by decide) (R.pickT rfl rfl) ?_
          refine WL.op (by decide) (R.move rfl) ?_
          refine WL.pass (by decide) rfl rfl rfl ?_
          refine WL.pass (by decide) rfl rfl rfl ?_
          refine WL.pass (by decide) rfl rfl rfl ?_
          refine WL.pass (by decide) rfl rfl rfl ?_
          refine WL.pass (by decide) rfl rfl rfl ?_
          refine WL.pass (by decide) rfl rfl rfl ?_
          refine WL.pass (by decide) rfl rfl rfl ?_
          refine WL.op (by decide) (R.pickT rfl rfl) ?_
          refine WL.op (by decide) (R.move rfl) ?_
          refine WL.pass (by decide) rfl rfl rfl ?_
          refine WL.pass (by decide) rfl rfl rfl ?_
          refine WL.pass (by decide) rfl rfl rfl ?_
          refine WL.pass (by decide) rfl rfl rfl ?_
          refine WL.pass (by decide) rfl rfl rfl ?_
          refine WL.pass (by decide) rfl rfl rfl ?_
          refine WL.pass (by decide) rfl rfl rfl ?_
          refine WL.op (by decide) (R.pickT rfl rfl) ?_
          refine WL.next ?_
          refine CW.condT rfl ?_
          refine CW.rseq ?_
          refine WL.op (by decide) (R.assign rfl) ?_
          refine WL.next ?_
          refine CW.ret ?_
          refine EW.thenRet ?_
          refine EW.ret1 (.inl rfl) rfl rfl ⟨congrArg (fun b => Ending.returned (.bool b)) (sameM_no (fun e => ?_)).symm, hC⟩
          subst e
          simp_all
        · skip
          refine WL.op (by decide) (R.pickF rfl rfl) ?_
          refine WL.op (by decide) (R.move rfl) ?_
          refine WL.gop (by decide) rfl rfl rfl (FA33_4 rfl) ?_
          refine WL.gop (by decide) rfl rfl rfl (R.load Tryd.underlying3 rfl rfl (cell_at hA rfl)) ?_
          refine WL.gop (by decide) rfl rfl rfl (FA33_4 rfl) ?_
          refine WL.gop (by decide) rfl rfl rfl (R.load Tryd.underlying3 rfl rfl (cell_at hB rfl)) ?_
          refine WL.gsplit _ (by decide) rfl rfl rfl (R.neqD rfl rfl) (fun h5 => ?_) (fun h5 => ?_)
          · skip
            refine WL.op (by decide) (R.pickF rfl rfl) ?_
            refine WL.op (by decide) (R.move rfl) ?_
            refine WL.pass (by decide) rfl rfl rfl ?_
            refine WL.pass (by decide) rfl rfl rfl ?_
            refine WL.pass (by decide) rfl rfl rfl ?_
            refine WL.pass (by decide) rfl rfl rfl ?_
            refine WL.pass (by decide) rfl rfl rfl ?_
            refine WL.op (by decide) (R.pickT rfl rfl) ?_
            refine WL.op (by decide) (R.move rfl) ?_
            refine WL.pass (by decide) rfl rfl rfl ?_
            refine WL.pass (by decide) rfl rfl rfl ?_
            refine WL.pass (by decide) rfl rfl rfl ?_
            refine WL.pass (by decide) rfl rfl rfl ?_
            refine WL.pass (by decide) rfl rfl rfl ?_
            refine WL.pass (by decide) rfl rfl rfl ?_
            refine WL.pass (by decide) rfl rfl rfl ?_
            refine WL.op (by decide) (R.pickT rfl rfl) ?_
            refine WL.op (by decide) (R.move rfl) ?_
            refine WL.pass (by decide) rfl rfl rfl ?_
            refine WL.pass (by decide) rfl rfl rfl ?_
            refine WL.pass (by decide) rfl rfl rfl ?_
            refine WL.pass (by decide) rfl rfl rfl ?_
            refine WL.pass (by decide) rfl rfl rfl ?_
            refine WL.pass (by decide) rfl rfl rfl ?_
            refine WL.pass (by decide) rfl rfl rfl ?_
            refine WL.op (by decide) (R.pickT rfl rfl) ?_
            refine WL.next ?_
            refine CW.condT rfl ?_
            refine CW.rseq ?_
            refine WL.op (by decide) (R.assign rfl) ?_
            refine WL.next ?_
            refine CW.ret ?_
            refine EW.thenRet ?_
            refine EW.ret1 (.inl rfl) rfl rfl ⟨congrArg (fun b => Ending.returned (.bool b)) (sameM_no (fun e => ?_)).symm, hC⟩
            subst e
            simp_all
          · skip
            refine WL.op (by decide) (R.pickF rfl rfl) ?_
            refine WL.op (by decide) (R.move rfl) ?_
            refine WL.gop (by decide) rfl rfl rfl (FA33_5 rfl) ?_
            refine WL.gop (by decide) rfl rfl rfl (R.loadAgg1 (cs := [sv a.qname, .int .i64 a.qtype]) Tryd.underlying25 rfl sz25 rfl (fun j u hj => cell_at hA (by match j, hj with | 0, hj => exact hj | 1, hj => exact hj))) ?_
            refine WL.gop (by decide) rfl rfl rfl (FA33_5 rfl) ?_
            refine WL.gop (by decide) rfl rfl rfl (R.loadAgg1 (cs := [sv b.qname, .int .i64 b.qtype]) Tryd.underlying25 rfl sz25 rfl (fun j u hj => cell_at hB (by match j, hj with | 0, hj => exact hj | 1, hj => exact hj))) ?_
            refine WL.gsplit _ (by decide) rfl rfl rfl (R.neq25D (a := a.qname) (b := b.qname) (m := a.qtype) (n := b.qtype) rfl rfl) (fun h6 => ?_) (fun h6 => ?_)
            · skip
              refine WL.op (by decide) (R.pickF rfl rfl) ?_
              refine WL.op (by decide) (R.move rfl) ?_
              refine WL.pass (by decide) rfl rfl rfl ?_
              refine WL.pass (by decide) rfl rfl rfl ?_
              refine WL.pass (by decide) rfl rfl rfl ?_
              refine WL.pass (by decide) rfl rfl rfl ?_
              refine WL.pass (by decide) rfl rfl rfl ?_
              refine WL.pass (by decide) rfl rfl rfl ?_
              refine WL.pass (by decide) rfl rfl rfl ?_
              refine WL.op (by decide) (R.pickT rfl rfl) ?_
              refine WL.op (by decide) (R.move rfl) ?_
              refine WL.pass (by decide) rfl rfl rfl ?_
              refine WL.pass (by decide) rfl rfl rfl ?_
              refine WL.pass (by decide) rfl rfl rfl ?_
              refine WL.pass (by decide) rfl rfl rfl ?_
              refine WL.pass (by decide) rfl rfl rfl ?_
              refine WL.pass (by decide) rfl rfl rfl ?_
              refine WL.pass (by decide) rfl rfl rfl ?_
              refine WL.op (by decide) (R.pickT rfl rfl) ?_
              refine WL.next ?_
              refine CW.condT rfl ?_
              refine CW.rseq ?_
              refine WL.op (by decide) (R.assign rfl) ?_
              refine WL.next ?_
              refine CW.ret ?_
              refine EW.thenRet ?_
              refine EW.ret1 (.inl rfl) rfl rfl ⟨congrArg (fun b => Ending.returned (.bool b)) (sameM_no (fun e => ?_)).symm, hC⟩
              subst e
              simp_all
            · skip
              refine WL.op (by decide) (R.pickF rfl rfl) ?_
              refine WL.op (by decide) (R.move rfl) ?_
              refine WL.gop (by decide) rfl rfl rfl (FA33_6 rfl) ?_
              refine WL.gop (by decide) rfl rfl rfl (R.load Tryd.underlying31 rfl rfl (cell_at hA rfl)) ?_
              refine WL.gop (by decide) rfl rfl rfl (R.lenSlice rfl Tryd.underlying31 rfl) ?_
              refine WL.gop (by decide) rfl rfl rfl (FA33_6 rfl) ?_
              refine WL.gop (by decide) rfl rfl rfl (R.load Tryd.underlying31 rfl rfl (cell_at hB rfl)) ?_
              refine WL.gop (by decide) rfl rfl rfl (R.lenSlice rfl Tryd.underlying31 rfl) ?_
              refine WL.gsplit _ (by decide) rfl rfl rfl (R.neqD rfl rfl) (fun h7 => ?_) (fun h7 => ?_)
              · skip
                refine WL.op (by decide) (R.pickF rfl rfl) ?_
                refine WL.op (by decide) (R.move rfl) ?_
                refine WL.pass (by decide) rfl rfl rfl ?_
                refine WL.pass (by decide) rfl rfl rfl ?_
                refine WL.pass (by decide) rfl rfl rfl ?_
                refine WL.pass (by decide) rfl rfl rfl ?_
                refine WL.pass (by decide) rfl rfl rfl ?_
                refine WL.pass (by decide) rfl rfl rfl ?_
                refine WL.pass (by decide) rfl rfl rfl ?_
                refine WL.op (by decide) (R.pickT rfl rfl) ?_
                refine WL.next ?_
                refine CW.condT rfl ?_
                refine CW.rseq ?_
                refine WL.op (by decide) (R.assign rfl) ?_
                refine WL.next ?_
                refine CW.ret ?_
                refine EW.thenRet ?_
                refine EW.ret1 (.inl rfl) rfl rfl ⟨congrArg (fun b => Ending.returned (.bool b)) (sameM_no (fun e => ?_)).symm, hC⟩
                subst e
                simp_all
              · skip
                refine WL.op (by decide) (R.pickF rfl rfl) ?_
                refine WL.op (by decide) (R.move rfl) ?_
                refine WL.gop (by decide) rfl rfl rfl (FA33_7 rfl) ?_
                refine WL.gop (by decide) rfl rfl rfl (R.load Tryd.underlying31 rfl rfl (cell_at hA rfl)) ?_
                refine WL.gop (by decide) rfl rfl rfl (R.lenSlice rfl Tryd.underlying31 rfl) ?_
                refine WL.gop (by decide) rfl rfl rfl (FA33_7 rfl) ?_
                refine WL.gop (by decide) rfl rfl rfl (R.load Tryd.underlying31 rfl rfl (cell_at hB rfl)) ?_
                refine WL.gop (by decide) rfl rfl rfl (R.lenSlice rfl Tryd.underlying31 rfl) ?_
                refine WL.gsplit _ (by decide) rfl rfl rfl (R.neqD rfl rfl) (fun h8 => ?_) (fun h8 => ?_)
                · skip
                  refine WL.op (by decide) (R.pickF rfl rfl) ?_
                  refine WL.next ?_
                  refine CW.condT rfl ?_
                  refine CW.rseq ?_
                  refine WL.op (by decide) (R.assign rfl) ?_
                  refine WL.next ?_
                  refine CW.ret ?_
                  refine EW.thenRet ?_
                  refine EW.ret1 (.inl rfl) rfl rfl ⟨congrArg (fun b => Ending.returned (.bool b)) (sameM_no (fun e => ?_)).symm, hC⟩
                  subst e
                  simp_all
                · skip
                  refine WL.op (by decide) (R.pickF rfl rfl) ?_
                  refine WL.next ?_
                  refine CW.condF rfl ?_
                  refine CW.skip ?_
                  refine EW.next ?_
                  refine CW.seq ?_
                  refine CW.rseq ?_
                  refine WL.op (by decide) (FA33_6 rfl) ?_
                  refine WL.op (by decide) (R.load Tryd.underlying31 rfl rfl (cell_at hA rfl)) ?_
                  refine WL.op (by decide) (R.lenSlice rfl Tryd.underlying31 rfl) ?_
                  refine WL.op (by decide) (R.move rfl) ?_
                  refine WL.next ?_
                  refine CW.block ?_
                  refine CW.loopK [2, 3, 67, 68] (fun k l wr => Chg (fun _ => False) w0 wr ∧ wr.heap[ba]? = some (.cells (a.cells (.slice Aa a.ans.length ca) (.slice Ba a.auth.length da)).toArray 33 (0, 0)) ∧ wr.heap[bb]? = some (.cells (b.cells (.slice Ab b.ans.length cb) (.slice Bb b.auth.length db)).toArray 33 (0, 0)) ∧ RSl wr (.slice Aa a.ans.length ca) a.ans ∧ RSl wr (.slice Ba a.auth.length da) a.auth ∧ RSl wr (.slice Ab b.ans.length cb) b.ans ∧ RSl wr (.slice Bb b.auth.length db) b.auth ∧ ∃ (j : Nat) (jj : Int), j + k = a.ans.length ∧ jj = (j : Int) ∧ l = [(2, .pointer (some ⟨ba, 0, none⟩)), (3, .pointer (some ⟨bb, 0, none⟩)), (67, .int .i64 a.ans.length), (68, .int .i64 jj)] ∧ a.ans.take j = b.ans.take j) (a.ans.length) ?_ ?_
                  · exact ⟨hC, hA, hB, hAa, hBa, hAb, hBb, 0, 0, by omega, rfl, rfl, rfl⟩
                  · rintro k l wr ⟨hC, hA, hB, hAa, hBa, hAb, hBb, j, jj, hk, rfl, rfl, htk⟩
                    refine CW.rseq ?_
                    refine WL.lssS (by decide) rfl rfl (fun h9 => ?_) (fun h9 => ?_)
                    · skip
                      refine WL.next ?_
                      refine CW.seq ?_
                      refine CW.condT rfl ?_
                      refine CW.skip ?_
                      refine EW.next ?_
                      refine CW.seq ?_
                      refine CW.block ?_
                      refine CW.rseq ?_
                      refine WL.op (by decide) (R.move rfl) ?_
                      refine WL.op (by decide) (R.assign rfl) ?_
                      refine WL.next ?_
                      refine CW.seq ?_
                      obtain ⟨x, hx⟩ : ∃ x, a.ans[j]? = some x := ⟨a.ans[j]'(by omega), List.getElem?_eq_getElem _⟩
                      obtain ⟨y, hy⟩ : ∃ y, b.ans[j]? = some y := ⟨b.ans[j]'(by omega), List.getElem?_eq_getElem _⟩
                      obtain ⟨hx16, _, gx, ox, hgx, hcx⟩ := hAa.at hx
                      obtain ⟨hy16, _, gy, oy, hgy, hcy⟩ := hAb.at hy
                      refine CW.draw (fun w => w.heap[ba]? = some (.cells (a.cells (.slice Aa a.ans.length ca) (.slice Ba a.auth.length da)).toArray 33 (0, 0)) ∧ w.heap[bb]? = some (.cells (b.cells (.slice Ab b.ans.length cb) (.slice Bb b.auth.length db)).toArray 33 (0, 0)) ∧ (∀ i u, x.cells[i]? = some u → w.cell? ⟨gx, ox + j * 21 + i, none⟩ = some u) ∧ (∀ i u, y.cells[i]? = some u → w.cell? ⟨gy, oy + j * 21 + i, none⟩ = some u)) (by kernel_rfl) ?_
                      have hC := hC.trans (Chg.drew (fun _ => False) _)
                      have hA := (Chg.drew (fun _ => False) _).at hA (fun e => e)
                      have hB := (Chg.drew (fun _ => False) _).at hB (fun e => e)
                      have hAa := hAa.kept (Chg.drew (fun _ => False) _) (fun _ _ e => e)
                      have hBa := hBa.kept (Chg.drew (fun _ => False) _) (fun _ _ e => e)
                      have hAb := hAb.kept (Chg.drew (fun _ => False) _) (fun _ _ e => e)
                      have hBb := hBb.kept (Chg.drew (fun _ => False) _) (fun _ _ e => e)
                      refine AH.take 0 rfl (by kernel_rfl) (by kernel_rfl) (by kernel_rfl) (fun _ _ _ _ h => h) ⟨hA, hB, hcx, hcy⟩ (by decide) (fun w hS => FA33_6 rfl) ?_
                      refine AH.take 1 rfl (by kernel_rfl) (by kernel_rfl) (by kernel_rfl) (fun _ _ _ _ h => h) ⟨hA, hB, hcx, hcy⟩ (by decide) (fun w hS => R.load (v := .slice (some ⟨gx, ox, none⟩) a.ans.length ca) Tryd.underlying31 rfl rfl (cell_at hS.1 (by rw [← hgx]; rfl))) ?_
                      refine AH.take 2 rfl (by kernel_rfl) (by kernel_rfl) (by kernel_rfl) (fun _ _ _ _ h => h) ⟨hA, hB, hcx, hcy⟩ (by decide) (fun w hS => R.move rfl) ?_
                      refine AH.take 3 rfl (by kernel_rfl) (by kernel_rfl) (by kernel_rfl) (fun _ _ _ _ h => h) ⟨hA, hB, hcx, hcy⟩ (by decide) (fun w hS => R.indexAddr1 (i := j) Tryd.underlying31 sz57 rfl rfl rfl (by omega)) ?_
                      refine AH.take 4 rfl (by kernel_rfl) (by kernel_rfl) (by kernel_rfl) (fun _ _ _ _ h => h) ⟨hA, hB, hcx, hcy⟩ (by decide) (fun w hS => R.loadR (r := x) hx16 rfl hS.2.2.1) ?_
                      refine AH.take 5 rfl (by kernel_rfl) (by kernel_rfl) (by kernel_rfl) (fun _ _ _ _ h => h) ⟨hA, hB, hcx, hcy⟩ (by decide) (fun w hS => FA33_6 rfl) ?_
                      refine AH.take 6 rfl (by kernel_rfl) (by kernel_rfl) (by kernel_rfl) (fun _ _ _ _ h => h) ⟨hA, hB, hcx, hcy⟩ (by decide) (fun w hS => R.load (v := .slice (some ⟨gy, oy, none⟩) b.ans.length cb) Tryd.underlying31 rfl rfl (cell_at hS.2.1 (by rw [← hgy]; rfl))) ?_
                      refine AH.take 7 rfl (by kernel_rfl) (by kernel_rfl) (by kernel_rfl) (fun _ _ _ _ h => h) ⟨hA, hB, hcx, hcy⟩ (by decide) (fun w hS => R.move rfl) ?_
                      refine AH.take 8 rfl (by kernel_rfl) (by kernel_rfl) (by kernel_rfl) (fun _ _ _ _ h => h) ⟨hA, hB, hcx, hcy⟩ (by decide) (fun w hS => R.indexAddr1 (i := j) Tryd.underlying31 sz57 rfl rfl rfl (by omega)) ?_
                      refine AH.take 9 rfl (by kernel_rfl) (by kernel_rfl) (by kernel_rfl) (fun _ _ _ _ h => h) ⟨hA, hB, hcx, hcy⟩ (by decide) (fun w hS => R.loadR (r := y) hy16 rfl hS.2.2.2) ?_
                      by_cases h10 : ¬ x = y
                      · skip
                        refine AH.take 10 rfl (by kernel_rfl) (by kernel_rfl) (by kernel_rfl) (fun _ _ _ _ h => h) ⟨hA, hB, hcx, hcy⟩ (by decide) (fun w hS => R.neq57 hx16 hy16 rfl rfl (c := true) (by simp [h10])) ?_
                        refine AH.done (by kernel_rfl) ?_
                        refine EW.next ?_
                        refine CW.condT rfl ?_
                        refine CW.rseq ?_
                        refine WL.op (by decide) (R.assign rfl) ?_
                        refine WL.next ?_
                        refine CW.ret ?_
                        refine EW.inRet ?_
                        refine EW.thenRet ?_
                        refine EW.thenRet ?_
                        refine EW.inRet ?_
                        refine EW.thenRet ?_
                        exact EW.ret1 (.inl rfl) rfl rfl ⟨congrArg (fun b => Ending.returned (.bool b)) (sameM_no (fun e => (show ¬ x = y by assumption) (by subst e; exact Option.some.inj (hx.symm.trans hy)))).symm, hC⟩
                      · skip
                        refine AH.take 10 rfl (by kernel_rfl) (by kernel_rfl) (by kernel_rfl) (fun _ _ _ _ h => h) ⟨hA, hB, hcx, hcy⟩ (by decide) (fun w hS => R.neq57 hx16 hy16 rfl rfl (c := false) (by simpa using h10)) ?_
                        refine AH.done (by kernel_rfl) ?_
                        refine EW.next ?_
                        refine CW.condF rfl ?_
                        refine CW.skip ?_
                        refine EW.inNormal ?_
                        refine EW.next ?_
                        refine CW.region ?_
                        refine WL.op (by decide) (R.add rfl rfl (by omega)) ?_
                        refine WL.op (by decide) (R.move rfl) ?_
                        refine WL.nil ?_
                        exact EW.roundK [2, 3, 67, 68] (k - 1) (by omega) ⟨hC, hA, hB, hAa, hBa, hAb, hBb, j + 1, _, by omega, by omega, rfl, take_next htk hx hy (Classical.byContradiction (fun e => by contradiction))⟩
                    · skip
                      refine WL.next ?_
                      refine CW.seq ?_
                      refine CW.condF rfl ?_
                      refine CW.exit ?_
                      have hans : a.ans = b.ans := by rwa [List.take_of_length_le (by omega), List.take_of_length_le (by omega)] at htk
                      refine EW.thenExit ?_
                      refine EW.thenExit ?_
                      refine EW.inHere ?_
                      refine EW.next ?_
                      refine CW.seq ?_
                      refine CW.rseq ?_
                      refine WL.op (by decide) (FA33_7 rfl) ?_
                      refine WL.op (by decide) (R.load Tryd.underlying31 rfl rfl (cell_at hA rfl)) ?_
                      refine WL.op (by decide) (R.lenSlice rfl Tryd.underlying31 rfl) ?_
                      refine WL.op (by decide) (R.move rfl) ?_
                      refine WL.next ?_
                      refine CW.block ?_
                      refine CW.loopK [2, 3, 85, 86] (fun k l wr => Chg (fun _ => False) w0 wr ∧ wr.heap[ba]? = some (.cells (a.cells (.slice Aa a.ans.length ca) (.slice Ba a.auth.length da)).toArray 33 (0, 0)) ∧ wr.heap[bb]? = some (.cells (b.cells (.slice Ab b.ans.length cb) (.slice Bb b.auth.length db)).toArray 33 (0, 0)) ∧ RSl wr (.slice Aa a.ans.length ca) a.ans ∧ RSl wr (.slice Ba a.auth.length da) a.auth ∧ RSl wr (.slice Ab b.ans.length cb) b.ans ∧ RSl wr (.slice Bb b.auth.length db) b.auth ∧ ∃ (j : Nat) (jj : Int), j + k = a.auth.length ∧ jj = (j : Int) ∧ l = [(2, .pointer (some ⟨ba, 0, none⟩)), (3, .pointer (some ⟨bb, 0, none⟩)), (85, .int .i64 a.auth.length), (86, .int .i64 jj)] ∧ a.auth.take j = b.auth.take j) (a.auth.length) ?_ ?_
                      · exact ⟨hC, hA, hB, hAa, hBa, hAb, hBb, 0, 0, by omega, rfl, rfl, rfl⟩
                      · rintro k l wr ⟨hC, hA, hB, hAa, hBa, hAb, hBb, j, jj, hk, rfl, rfl, htk⟩
                        refine CW.rseq ?_
                        refine WL.lssS (by decide) rfl rfl (fun h11 => ?_) (fun h11 => ?_)
                        · skip
                          refine WL.next ?_
                          refine CW.seq ?_
                          refine CW.condT rfl ?_
                          refine CW.skip ?_
                          refine EW.next ?_
                          refine CW.seq ?_
                          refine CW.block ?_
                          refine CW.rseq ?_
                          refine WL.op (by decide) (R.move rfl) ?_
                          refine WL.op (by decide) (R.assign rfl) ?_
                          refine WL.next ?_
                          refine CW.seq ?_
                          obtain ⟨x, hx⟩ : ∃ x, a.auth[j]? = some x := ⟨a.auth[j]'(by omega), List.getElem?_eq_getElem _⟩
                          obtain ⟨y, hy⟩ : ∃ y, b.auth[j]? = some y := ⟨b.auth[j]'(by omega), List.getElem?_eq_getElem _⟩
                          obtain ⟨hx16, _, gx, ox, hgx, hcx⟩ := hBa.at hx
                          obtain ⟨hy16, _, gy, oy, hgy, hcy⟩ := hBb.at hy
                          refine CW.draw (fun w => w.heap[ba]? = some (.cells (a.cells (.slice Aa a.ans.length ca) (.slice Ba a.auth.length da)).toArray 33 (0, 0)) ∧ w.heap[bb]? = some (.cells (b.cells (.slice Ab b.ans.length cb) (.slice Bb b.auth.length db)).toArray 33 (0, 0)) ∧ (∀ i u, x.cells[i]? = some u → w.cell? ⟨gx, ox + j * 21 + i, none⟩ = some u) ∧ (∀ i u, y.cells[i]? = some u → w.cell? ⟨gy, oy + j * 21 + i, none⟩ = some u)) (by kernel_rfl) ?_
                          have hC := hC.trans (Chg.drew (fun _ => False) _)
                          have hA := (Chg.drew (fun _ => False) _).at hA (fun e => e)
                          have hB := (Chg.drew (fun _ => False) _).at hB (fun e => e)
                          have hAa := hAa.kept (Chg.drew (fun _ => False) _) (fun _ _ e => e)
                          have hBa := hBa.kept (Chg.drew (fun _ => False) _) (fun _ _ e => e)
                          have hAb := hAb.kept (Chg.drew (fun _ => False) _) (fun _ _ e => e)
                          have hBb := hBb.kept (Chg.drew (fun _ => False) _) (fun _ _ e => e)
                          refine AH.take 0 rfl (by kernel_rfl) (by kernel_rfl) (by kernel_rfl) (fun _ _ _ _ h => h) ⟨hA, hB, hcx, hcy⟩ (by decide) (fun w hS => FA33_7 rfl) ?_
                          refine AH.take 1 rfl (by kernel_rfl) (by kernel_rfl) (by kernel_rfl) (fun _ _ _ _ h => h) ⟨hA, hB, hcx, hcy⟩ (by decide) (fun w hS => R.load (v := .slice (some ⟨gx, ox, none⟩) a.auth.length da) Tryd.underlying31 rfl rfl (cell_at hS.1 (by rw [← hgx]; rfl))) ?_
                          refine AH.take 2 rfl (by kernel_rfl) (by kernel_rfl) (by kernel_rfl) (fun _ _ _ _ h => h) ⟨hA, hB, hcx, hcy⟩ (by decide) (fun w hS => R.move rfl) ?_
                          refine AH.take 3 rfl (by kernel_rfl) (by kernel_rfl) (by kernel_rfl) (fun _ _ _ _ h => h) ⟨hA, hB, hcx, hcy⟩ (by decide) (fun w hS => R.indexAddr1 (i := j) Tryd.underlying31 sz57 rfl rfl rfl (by omega)) ?_
                          refine AH.take 4 rfl (by kernel_rfl) (by kernel_rfl) (by kernel_rfl) (fun _ _ _ _ h => h) ⟨hA, hB, hcx, hcy⟩ (by decide) (fun w hS => R.loadR (r := x) hx16 rfl hS.2.2.1) ?_
                          refine AH.take 5 rfl (by kernel_rfl) (by kernel_rfl) (by kernel_rfl) (fun _ _ _ _ h => h) ⟨hA, hB, hcx, hcy⟩ (by decide) (fun w hS => FA33_7 rfl) ?_
                          refine AH.take 6 rfl (by kernel_rfl) (by kernel_rfl) (by kernel_rfl) (fun _ _ _ _ h => h) ⟨hA, hB, hcx, hcy⟩ (by decide) (fun w hS => R.load (v := .slice (some ⟨gy, oy, none⟩) b.auth.length db) Tryd.underlying31 rfl rfl (cell_at hS.2.1 (by rw [← hgy]; rfl))) ?_
                          refine AH.take 7 rfl (by kernel_rfl) (by kernel_rfl) (by kernel_rfl) (fun _ _ _ _ h => h) ⟨hA, hB, hcx, hcy⟩ (by decide) (fun w hS => R.move rfl) ?_
                          refine AH.take 8 rfl (by kernel_rfl) (by kernel_rfl) (by kernel_rfl) (fun _ _ _ _ h => h) ⟨hA, hB, hcx, hcy⟩ (by decide) (fun w hS => R.indexAddr1 (i := j) Tryd.underlying31 sz57 rfl rfl rfl (by omega)) ?_
                          refine AH.take 9 rfl (by kernel_rfl) (by kernel_rfl) (by kernel_rfl) (fun _ _ _ _ h => h) ⟨hA, hB, hcx, hcy⟩ (by decide) (fun w hS => R.loadR (r := y) hy16 rfl hS.2.2.2) ?_
                          by_cases h12 : ¬ x = y
                          · skip
                            refine AH.take 10 rfl (by kernel_rfl) (by kernel_rfl) (by kernel_rfl) (fun _ _ _ _ h => h) ⟨hA, hB, hcx, hcy⟩ (by decide) (fun w hS => R.neq57 hx16 hy16 rfl rfl (c := true) (by simp [h12])) ?_
                            refine AH.done (by kernel_rfl) ?_
                            refine EW.next ?_
                            refine CW.condT rfl ?_
                            refine CW.rseq ?_
                            refine WL.op (by decide) (R.assign rfl) ?_
                            refine WL.next ?_
                            refine CW.ret ?_
                            refine EW.inRet ?_
                            refine EW.thenRet ?_
                            refine EW.thenRet ?_
                            refine EW.inRet ?_
                            refine EW.thenRet ?_
                            exact EW.ret1 (.inl rfl) rfl rfl ⟨congrArg (fun b => Ending.returned (.bool b)) (sameM_no (fun e => (show ¬ x = y by assumption) (by subst e; exact Option.some.inj (hx.symm.trans hy)))).symm, hC⟩
                          · skip
                            refine AH.take 10 rfl (by kernel_rfl) (by kernel_rfl) (by kernel_rfl) (fun _ _ _ _ h => h) ⟨hA, hB, hcx, hcy⟩ (by decide) (fun w hS => R.neq57 hx16 hy16 rfl rfl (c := false) (by simpa using h12)) ?_
                            refine AH.done (by kernel_rfl) ?_
                            refine EW.next ?_
                            refine CW.condF rfl ?_
                            refine CW.skip ?_
                            refine EW.inNormal ?_
                            refine EW.next ?_
                            refine CW.region ?_
                            refine WL.op (by decide) (R.add rfl rfl (by omega)) ?_
                            refine WL.op (by decide) (R.move rfl) ?_
                            refine WL.nil ?_
                            exact EW.roundK [2, 3, 85, 86] (k - 1) (by omega) ⟨hC, hA, hB, hAa, hBa, hAb, hBb, j + 1, _, by omega, by omega, rfl, take_next htk hx hy (Classical.byContradiction (fun e => by contradiction))⟩
                        · skip
                          refine WL.next ?_
                          refine CW.seq ?_
                          refine CW.condF rfl ?_
                          refine CW.exit ?_
                          have hauth : a.auth = b.auth := by rwa [List.take_of_length_le (by omega), List.take_of_length_le (by omega)] at htk
                          refine EW.thenExit ?_
                          refine EW.thenExit ?_
                          refine EW.inHere ?_
                          refine EW.next ?_
                          refine CW.rseq ?_
                          refine WL.op (by decide) (R.assign rfl) ?_
                          refine WL.next ?_
                          refine CW.ret ?_
                          exact EW.ret1 (.inl rfl) rfl rfl ⟨congrArg (fun b => Ending.returned (.bool b)) (sameM_yes (by omega) (by simpa using @h2) (by simpa using @h3) (by simpa using @h4) (by omega) (by simpa using @h6) hans hauth).symm, hC⟩
end Go.Proofs.YthcpjcgjmdfpjaaDoor

namespace Go.Proofs.YthcpjcgjmdfpjaaDoor
open Go Go.ChangeShapes Go.WideShapes Go.ChangeAt Go.RowKit
set_option maxRecDepth 100000

/-! ### Where the ways meet again, inside a region -/
theorem upon_cong {P : Program} {o : Oper} {a : Act} {w : World} {K K' : Act → World → Prop} {Q Q' : Exit → Act → World → Prop} (hp : ∀ c a w, Q (.panic c) a w → Q' (.panic c) a w) (ho : LetsOut Q → LetsOut Q') (hk : ∀ a w, K a w → K' a w) (h : o.wp P a w K Q) : o.wp P a w K' Q' := by
  unfold Oper.wp at *
  generalize (execOp a.eval o).run P w = r at *
  cases r with
  | ok n w' =>
    cases n <;> simp only [Oper.upon] at h ⊢ <;>
      first
        | exact hk _ _ h
        | exact Calls.mono h (fun e w'' he => by cases e <;> first | exact hk _ _ he | exact hp _ _ _ he | exact ho he)
        | exact Rows.mono h (fun _ _ he => hk _ _ he)
  | halt x w' => cases x <;> simp only [Oper.upon] at h ⊢ <;> first | exact hp _ _ _ h | exact h
theorem wpList_join {P : Program} {ops : Array Oper} {Q : Exit → Act → World → Prop} {N : Act → World → Prop} {ys : List Oper} (h2 : ∀ a w, N a w → wpList P ops Q ys a w) : ∀ (xs : List Oper) (a : Act) (w : World), wpList P ops (Exit.then N Q) xs a w → wpList P ops Q (xs ++ ys) a w
  | [], a, w, h => h2 a w h
  | o :: xs, a, w, h => by
    have ih := wpList_join h2 xs
    have hl : LetsOut (Exit.then N Q) → LetsOut Q := fun ⟨a, w, h⟩ => ⟨a, w, h⟩
    unfold wpList at h
    show wpList P ops Q (o :: (xs ++ ys)) a w
    unfold wpList
    split
    · rename_i hw
      rw [if_pos hw] at h
      exact h.imp (upon_cong (fun _ _ _ h => h) hl ih) (fun h => ⟨h.1, hl h.2⟩)
    · rename_i hw
      rw [if_neg hw] at h
      exact ih _ _ h
section
variable {P : Program} {ops : Array Oper} {Q : Exit → Act → World → Prop} {n : Nat} {l : Env} {w : World}
/-- The first k operations, and what holds behind them. -/
theorem WL.cut (k : Nat) (M : Env → World → Prop) {os : List Oper} (h1 : WL P ops (Exit.then (fun a' w' => ∃ l', Fr a' n l' ∧ M l' w') Q) (os.take k) n l w) (h2 : ∀ l w, M l w → WL P ops Q (os.drop k) n l w) : WL P ops Q os n l w := by
  intro a ha
  have := wpList_join (ys := os.drop k) (fun a' w' ⟨l', hf, hM⟩ => h2 l' w' hM a' hf) (os.take k) a w (h1 a ha)
  rwa [List.take_append_drop] at this
theorem WL.cutEnd (ks : List Nat) {M : Env → World → Prop} (hM : M (Env.keep l ks) w) : WL P ops (Exit.then (fun a' w' => ∃ l', Fr a' n l' ∧ M l' w') Q) [] n l w := fun a ha => ⟨_, ha.weaken (Env.keep_get l ks), hM⟩
end

theorem len_dec {bs : List UInt8} {M : Msg} (h : decode bs = some M) : M.ans.length ≤ 1099511627776 ∧ M.auth.length ≤ 1099511627776 := by
  have := (all_parts (decode_all h)).2.2.2.2.2.2.2.1
  omega
/-! ### Chains -/
theorem Chg.thenB {S : Nat → Prop} {a b c : World} {g : Nat} (h : Chg S a b) (k : Chg (fun j => j = g) b c) (hg : a.heap.size ≤ g) : Chg S a c := h.then k (fun j hj e => absurd hj (by omega))
theorem RSl.keep0 {w w' : World} {v : Value} {rs : List Rec} (h : RSl w v rs) (hc : Chg (fun _ => False) w w') : RSl w' v rs := h.kept hc (fun _ _ e => e)
theorem Src.keep0 {w w' : World} {A : Option Addr} {m c : Nat} {bs : List UInt8} (h : Src w A m c bs) (hc : Chg (fun _ => False) w w') : Src w' A m c bs := h.kept hc (fun _ _ _ e => e)
theorem Glob.keep0 {w w' : World} (h : Glob w) (hc : Chg (fun _ => False) w w') : Glob w' := h.kept hc (fun e => e)
theorem MV.keep0 {w w' : World} {v : Value} {m : Msg} (h : MV w v m) (hc : Chg (fun _ => False) w w') : MV w' v m := h.kept hc (fun _ _ e => e)
theorem Buf.keep0 {w w' : World} {base : Nat} {v : Value} {bs : List UInt8} (h : Buf w base v bs) (hc : Chg (fun _ => False) w w') : Buf w' base v bs := h.kept hc (fun _ _ e => e)

/-! ### Messages -/
abbrev BM (w : World) (b : Nat) (m : Msg) (va vb : Value) : Prop := w.heap[b]? = some (.cells (m.cells va vb).toArray 33 (0, 0))
def msg0 : Msg := ⟨0, false, false, false, 0, [], 0, [], []⟩
theorem Msg.setId (m : Msg) (va vb : Value) (x : Int) : (m.cells va vb).toArray.setIfInBounds 0 (.int .i64 x) = (({ m with id := x } : Msg).cells va vb).toArray := by simp [Msg.cells]
theorem Msg.setType (m : Msg) (va vb : Value) (x : Int) : (m.cells va vb).toArray.setIfInBounds 6 (.int .i64 x) = (({ m with qtype := x } : Msg).cells va vb).toArray := by simp [Msg.cells]
theorem Msg.setQ (m : Msg) (va vb : Value) (s : List UInt8) (x : Int) : ((m.cells va vb).toArray.toList.take 5 ++ [sv s, .int .i64 x] ++ (m.cells va vb).toArray.toList.drop (5 + 2)).toArray = (({ m with qname := s, qtype := x } : Msg).cells va vb).toArray := by simp [Msg.cells]
theorem sl_one (A : Option Addr) (n c : Nat) : (Value.slice A n c).oneCell' = true := rfl
section
variable {l : Env} {n d : Nat} {w : World} {Q : Exit → Act → World → Prop} {M : Env → World → Prop} {t ty : TypeId} {pos : String} {af : Array Edge} {x y : Operand} {b o : Nat}
theorem OP.allocM (hdn : d < n) (h : ∀ w', Chg (fun _ => False) w w' → w'.heap.size = w.heap.size + 1 → BM w' w.heap.size msg0 (.slice none 0 0) (.slice none 0 0) → M ((d, .pointer (some ⟨w.heap.size, 0, none⟩)) :: l) w') :
    OP Tryd.prog Q ⟨some d, .alloc 33, t, pos, af, none⟩ n l w M :=
  OP.alloc1 (.agg (msg0.cells (.slice none 0 0) (.slice none 0 0)).toArray) hdn (by kernel_rfl) h
theorem OP.storeM {m m0 : Msg} {A A2 : Option Addr} {i c i2 c2 : Nat} {u u2 : Value} (hx : ev l x = some (.pointer (some ⟨b, 0, none⟩))) (hy : ev l y = some (.agg (m.cells (.slice A i c) (.slice A2 i2 c2)).toArray)) (hb : BM w b m0 u u2)
    (h : ∀ w', Chg (fun k => k = b) w w' → w'.heap.size = w.heap.size → BM w' b m (.slice A i c) (.slice A2 i2 c2) → M l w') :
    OP Tryd.prog Q ⟨none, .store 33 x y, ty, pos, af, none⟩ n l w M :=
  OP.storeAgg inf33.choose_spec.1 (by rw [inf33.choose_spec.2]; rfl) hx hy (m_all _ _ _ _ _ _ _) hb rfl h
theorem R.loadM {m : Msg} {va vb : Value} (hx : ev l x = some (.pointer (some ⟨b, 0, none⟩))) (hb : BM w b m va vb) : Runs Tryd.prog l (.load 33 x) w (.agg (m.cells va vb).toArray) w :=
  R.loadAgg1 (cs := m.cells va vb) Tryd.underlying33 rfl sz33 hx (fun j u hj => cell_at hb (by rw [Nat.zero_add, List.getElem?_toArray]; exact hj))
theorem R.loadQ {m : Msg} {va vb : Value} (hx : ev l x = some (.pointer (some ⟨b, 5, none⟩))) (hb : BM w b m va vb) : Runs Tryd.prog l (.load 25 x) w (.agg #[sv m.qname, .int .i64 m.qtype]) w :=
  R.loadAgg1 (cs := [sv m.qname, .int .i64 m.qtype]) Tryd.underlying25 rfl sz25 hx (fun j u hj => cell_at hb (by match j, hj with | 0, hj => exact hj | 1, hj => exact hj))
theorem OP.storeId {m : Msg} {va vb : Value} {v : Int} (hx : ev l x = some (.pointer (some ⟨b, 0, none⟩))) (hy : ev l y = some (.int .i64 v)) (hb : BM w b m va vb)
    (h : ∀ w', Chg (fun k => k = b) w w' → w'.heap.size = w.heap.size → BM w' b { m with id := v } va vb → M l w') :
    OP Tryd.prog Q ⟨none, .store 3 x y, ty, pos, af, none⟩ n l w M :=
  OP.store1 sz3 hx hy rfl rfl hb (by simp [Msg.cells]) rfl (fun w' h1 h2 h3 => h w' h1 h2 (by rw [Msg.setId] at h3; exact h3))
theorem OP.storeType {m : Msg} {va vb : Value} {v : Int} (hx : ev l x = some (.pointer (some ⟨b, 6, none⟩))) (hy : ev l y = some (.int .i64 v)) (hb : BM w b m va vb)
    (h : ∀ w', Chg (fun k => k = b) w w' → w'.heap.size = w.heap.size → BM w' b { m with qtype := v } va vb → M l w') :
    OP Tryd.prog Q ⟨none, .store 3 x y, ty, pos, af, none⟩ n l w M :=
  OP.store1 sz3 hx hy rfl rfl hb (by simp [Msg.cells]) rfl (fun w' h1 h2 h3 => h w' h1 h2 (by rw [Msg.setType] at h3; exact h3))
theorem OP.storeQ {m : Msg} {va vb : Value} {s : List UInt8} {v : Int} (hx : ev l x = some (.pointer (some ⟨b, 5, none⟩))) (hy : ev l y = some (.agg #[sv s, .int .i64 v])) (hb : BM w b m va vb)
    (h : ∀ w', Chg (fun k => k = b) w w' → w'.heap.size = w.heap.size → BM w' b { m with qname := s, qtype := v } va vb → M l w') :
    OP Tryd.prog Q ⟨none, .store 25 x y, ty, pos, af, none⟩ n l w M :=
  OP.storeAt sz25 rfl hx hy (by simp [sv, Value.oneCell']) hb (by simp [Msg.cells]) (fun w' h1 h2 h3 => h w' h1 h2 (by
    have e := Msg.setQ m va vb s v
    rw [e] at h3; exact h3))
theorem OP.storeAns {m : Msg} {va vb : Value} {A : Option Addr} {i c : Nat} {rs : List Rec} (hx : ev l x = some (.pointer (some ⟨b, 7, none⟩))) (hy : ev l y = some (.slice A i c)) (hb : BM w b m va vb)
    (h : ∀ w', Chg (fun k => k = b) w w' → w'.heap.size = w.heap.size → BM w' b { m with ans := rs } (.slice A i c) vb → M l w') :
    OP Tryd.prog Q ⟨none, .store 31 x y, ty, pos, af, none⟩ n l w M :=
  OP.store1 sz31 hx hy rfl rfl hb (by simp [Msg.cells]) rfl (fun w' h1 h2 h3 => h w' h1 h2 (by
    have e : (m.cells va vb).toArray.setIfInBounds 7 (.slice A i c) = (({ m with ans := rs } : Msg).cells (.slice A i c) vb).toArray := by simp [Msg.cells]
    rw [e] at h3; exact h3))
theorem OP.storeAuth {m : Msg} {va vb : Value} {A : Option Addr} {i c : Nat} {rs : List Rec} (hx : ev l x = some (.pointer (some ⟨b, 8, none⟩))) (hy : ev l y = some (.slice A i c)) (hb : BM w b m va vb)
    (h : ∀ w', Chg (fun k => k = b) w w' → w'.heap.size = w.heap.size → BM w' b { m with auth := rs } va (.slice A i c) → M l w') :
    OP Tryd.prog Q ⟨none, .store 31 x y, ty, pos, af, none⟩ n l w M :=
  OP.store1 sz31 hx hy rfl rfl hb (by simp [Msg.cells]) rfl (fun w' h1 h2 h3 => h w' h1 h2 (by
    have e : (m.cells va vb).toArray.setIfInBounds 8 (.slice A i c) = (({ m with auth := rs } : Msg).cells va (.slice A i c)).toArray := by simp [Msg.cells]
    rw [e] at h3; exact h3))

/-! ### Questions on their way -/
abbrev BT (w : World) (b : Nat) (t : Tr) : Prop := w.heap[b]? = some (.cells t.cells.toArray 29 (0, 0))
def tr0 : Tr := ⟨[], 0, 0, 0, zero16, 0, 0, false, false, 0⟩
theorem OP.allocT (hdn : d < n) (h : ∀ w', Chg (fun _ => False) w w' → w'.heap.size = w.heap.size + 1 → BT w' w.heap.size tr0 → M ((d, .pointer (some ⟨w.heap.size, 0, none⟩)) :: l) w') :
    OP Tryd.prog Q ⟨some d, .alloc 29, t, pos, af, none⟩ n l w M :=
  OP.alloc1 (.agg tr0.cells.toArray) hdn (by kernel_rfl) h
theorem OP.storeT {T T0 : Tr} (h16 : T.to.length = 16) (h160 : T0.to.length = 16) (hx : ev l x = some (.pointer (some ⟨b, 0, none⟩))) (hy : ev l y = some T.val) (hb : BT w b T0)
    (h : ∀ w', Chg (fun k => k = b) w w' → w'.heap.size = w.heap.size → BT w' b T → M l w') :
    OP Tryd.prog Q ⟨none, .store 29 x y, ty, pos, af, none⟩ n l w M := by
  obtain ⟨i, hi, hz⟩ := inf_of sz29
  exact OP.storeAgg hi (by rw [hz, List.size_toArray, Tr.length h16]) hx hy (Tr.allOne _) hb (by rw [List.size_toArray, List.size_toArray, Tr.length h16, Tr.length h160]) h
theorem R.loadT {T : Tr} (h16 : T.to.length = 16) (hx : ev l x = some (.pointer (some ⟨b, 0, none⟩))) (hb : BT w b T) : Runs Tryd.prog l (.load 29 x) w T.val w :=
  R.loadAgg1 (cs := T.cells) Tryd.underlying29 rfl (by rw [Tr.length h16]; exact sz29) hx (fun j u hj => cell_at hb (by rw [Nat.zero_add, List.getElem?_toArray]; exact hj))
theorem R.loadTQ {T : Tr} (hx : ev l x = some (.pointer (some ⟨b, 0, none⟩))) (hb : BT w b T) : Runs Tryd.prog l (.load 25 x) w (.agg #[sv T.qname, .int .i64 T.qtype]) w :=
  R.loadAgg1 (cs := [sv T.qname, .int .i64 T.qtype]) Tryd.underlying25 rfl sz25 hx (fun j u hj => cell_at hb (by match j, hj with | 0, hj => exact hj | 1, hj => exact hj))
theorem R.loadTTo {T : Tr} (h16 : T.to.length = 16) (hx : ev l x = some (.pointer (some ⟨b, 4, none⟩))) (hb : BT w b T) : Runs Tryd.prog l (.load 27 x) w (.agg (T.to.map u8v).toArray) w :=
  R.loadAgg1 (cs := T.to.map u8v) Tryd.underlying27 rfl (by rw [List.length_map, h16]; exact sz27) hx (fun j u hj => cell_at hb (Tr.atTo hj))
theorem Tr.setStream {T : Tr} (h16 : T.to.length = 16) (s : Bool) : T.cells.toArray.setIfInBounds 22 (.bool s) = ({ T with stream := s } : Tr).cells.toArray := by
  obtain ⟨q, a, b, c, to, i, p, st, g, u⟩ := T
  obtain ⟨a0, a1, a2, a3, a4, a5, a6, a7, a8, a9, b0, b1, b2, b3, b4, b5, rfl⟩ := list16 h16
  rfl
theorem OP.storeStream {T : Tr} {v : Bool} (h16 : T.to.length = 16) (hx : ev l x = some (.pointer (some ⟨b, 22, none⟩))) (hy : ev l y = some (.bool v)) (hb : BT w b T)
    (h : ∀ w', Chg (fun k => k = b) w w' → w'.heap.size = w.heap.size → BT w' b { T with stream := v } → M l w') :
    OP Tryd.prog Q ⟨none, .store 4 x y, ty, pos, af, none⟩ n l w M :=
  OP.store1 sz4 hx hy rfl rfl hb (by rw [List.size_toArray, Tr.length h16]; decide) rfl (fun w' h1 h2 h3 => h w' h1 h2 (by rw [Tr.setStream h16] at h3; exact h3))

/-! ### Addresses alone -/
abbrev BA (w : World) (b : Nat) (a : List UInt8) : Prop := w.heap[b]? = some (.cells (a.map u8v).toArray 27 (0, 0))
theorem u8_all (a : List UInt8) : (a.map u8v).toArray.all (·.oneCell') = true := by
  rw [Array.all_eq_true_iff_forall_mem]
  intro u hu
  exact u8v_one a u (by simpa using hu)
theorem OP.allocA (hdn : d < n) (h : ∀ w', Chg (fun _ => False) w w' → w'.heap.size = w.heap.size + 1 → BA w' w.heap.size zero16 → M ((d, .pointer (some ⟨w.heap.size, 0, none⟩)) :: l) w') :
    OP Tryd.prog Q ⟨some d, .alloc 27, t, pos, af, none⟩ n l w M :=
  OP.alloc1 (.agg (zero16.map u8v).toArray) hdn (by kernel_rfl) h
theorem OP.storeA {a a0 : List UInt8} (h16 : a.length = 16) (h160 : a0.length = 16) (hx : ev l x = some (.pointer (some ⟨b, 0, none⟩))) (hy : ev l y = some (.agg (a.map u8v).toArray)) (hb : BA w b a0)
    (h : ∀ w', Chg (fun k => k = b) w w' → w'.heap.size = w.heap.size → BA w' b a → M l w') :
    OP Tryd.prog Q ⟨none, .store 27 x y, ty, pos, af, none⟩ n l w M := by
  obtain ⟨i, hi, hz⟩ := inf_of sz27
  exact OP.storeAgg hi (by rw [hz, List.size_toArray, List.length_map, h16]) hx hy (u8_all a) hb (by rw [List.size_toArray, List.size_toArray, List.length_map, List.length_map, h16, h160]) h
theorem R.loadA {a : List UInt8} (h16 : a.length = 16) (hx : ev l x = some (.pointer (some ⟨b, 0, none⟩))) (hb : BA w b a) : Runs Tryd.prog l (.load 27 x) w (.agg (a.map u8v).toArray) w :=
  R.loadAgg1 (cs := a.map u8v) Tryd.underlying27 rfl (by rw [List.length_map, h16]; exact sz27) hx (fun j u hj => cell_at hb (by rw [Nat.zero_add, List.getElem?_toArray]; exact hj))
theorem OP.storeA1 {a : List UInt8} {i : Nat} {c : UInt8} (hi : i < a.length) (hx : ev l x = some (.pointer (some ⟨b, i, none⟩))) (hy : ev l y = some (u8v c)) (hb : BA w b a)
    (h : ∀ w', Chg (fun k => k = b) w w' → w'.heap.size = w.heap.size → BA w' b (a.set i c) → M l w') :
    OP Tryd.prog Q ⟨none, .store 5 x y, ty, pos, af, none⟩ n l w M :=
  OP.store1 sz5 hx hy rfl rfl hb (by simpa using hi) rfl (fun w' h1 h2 h3 => h w' h1 h2 (by
    have e : (a.map u8v).toArray.setIfInBounds i (u8v c) = ((a.set i c).map u8v).toArray := by simp
    rw [e] at h3; exact h3))

/-! ### Seeds and local addresses -/
theorem SeedV.length {s : SeedV} (h : s.addr.length = 16) : s.cells.length = 20 := by simp [SeedV.cells, h]
theorem SeedV.atAddr {s : SeedV} {j : Nat} {u : Value} (hj : (s.addr.map u8v)[j]? = some u) : s.cells.toArray[3 + j]? = some u := by
  have hlt := (List.getElem?_eq_some_iff.1 hj).1
  rw [Nat.add_comm, List.getElem?_toArray]
  show (s.addr.map u8v ++ [sv s.data])[j]? = _
  rw [List.getElem?_append_left hlt]; exact hj
theorem SeedV.at19 {s : SeedV} (h : s.addr.length = 16) : s.cells.toArray[19]? = some (sv s.data) := by
  rw [List.getElem?_toArray]
  show (s.addr.map u8v ++ [sv s.data])[16]? = _
  rw [List.getElem?_append_right (by simp [h])]; simp [h]
theorem SeedV.allOne (s : SeedV) : s.cells.toArray.all (·.oneCell') = true := by
  rw [Array.all_eq_true_iff_forall_mem]
  intro u hu
  simp only [SeedV.cells, List.mem_toArray, List.mem_cons, List.mem_append, List.mem_map, List.not_mem_nil, or_false] at hu
  rcases hu with rfl | rfl | rfl | ⟨c, _, rfl⟩ | rfl <;> rfl
abbrev BSd (w : World) (b : Nat) (s : SeedV) : Prop := w.heap[b]? = some (.cells s.cells.toArray 50 (0, 0))
def seed0 : SeedV := ⟨0, 0, 0, zero16, []⟩
theorem OP.allocSd (hdn : d < n) (h : ∀ w', Chg (fun _ => False) w w' → w'.heap.size = w.heap.size + 1 → BSd w' w.heap.size seed0 → M ((d, .pointer (some ⟨w.heap.size, 0, none⟩)) :: l) w') :
    OP Tryd.prog Q ⟨some d, .alloc 50, t, pos, af, none⟩ n l w M :=
  OP.alloc1 (.agg seed0.cells.toArray) hdn (by kernel_rfl) h
theorem OP.storeSd {s s0 : SeedV} (h16 : s.addr.length = 16) (h160 : s0.addr.length = 16) (hx : ev l x = some (.pointer (some ⟨b, 0, none⟩))) (hy : ev l y = some (.agg s.cells.toArray)) (hb : BSd w b s0)
    (h : ∀ w', Chg (fun k => k = b) w w' → w'.heap.size = w.heap.size → BSd w' b s → M l w') :
    OP Tryd.prog Q ⟨none, .store 50 x y, ty, pos, af, none⟩ n l w M := by
  obtain ⟨i, hi, hz⟩ := inf_of sz50
  exact OP.storeAgg hi (by rw [hz, List.size_toArray, SeedV.length h16]) hx hy s.allOne hb (by rw [List.size_toArray, List.size_toArray, SeedV.length h16, SeedV.length h160]) h
theorem R.loadSdAt {s : SeedV} {g k : Nat} (h16 : s.addr.length = 16) (hx : ev l x = some (.pointer (some ⟨g, k, none⟩))) (hc : ∀ i u, s.cells[i]? = some u → w.cell? ⟨g, k + i, none⟩ = some u) : Runs Tryd.prog l (.load 50 x) w (.agg s.cells.toArray) w :=
  R.loadAgg1 (cs := s.cells) Tryd.underlying50 rfl (by rw [SeedV.length h16]; exact sz50) hx hc
theorem R.loadSd {s : SeedV} (h16 : s.addr.length = 16) (hx : ev l x = some (.pointer (some ⟨b, 0, none⟩))) (hb : BSd w b s) : Runs Tryd.prog l (.load 50 x) w (.agg s.cells.toArray) w :=
  R.loadSdAt h16 hx (fun j u hj => cell_at hb (by rw [Nat.zero_add, List.getElem?_toArray]; exact hj))
theorem Sl.at {α : Type} {cells : α → List Value} {N : Nat} {A : Option Addr} {m : Nat} {ls : List α} (h : Sl cells N w A m ls) {j : Nat} {a : α} (hj : ls[j]? = some a) : ls.length = m ∧ ∃ g o, A = some ⟨g, o, none⟩ ∧ ∀ i u, (cells a)[i]? = some u → w.cell? ⟨g, o + j * N + i, none⟩ = some u := by
  have hlt := (List.getElem?_eq_some_iff.1 hj).1
  obtain ⟨g, o, hA, hc⟩ := h.2 (by have := h.1; omega)
  exact ⟨h.1, g, o, hA, fun i u hi => hc j a i u hj hi⟩
theorem LocalV.length {s : LocalV} (h : s.addr.length = 16) : s.cells.length = 18 := by simp [LocalV.cells, h]
theorem LocalV.atAddr {s : LocalV} {j : Nat} {u : Value} (hj : (s.addr.map u8v)[j]? = some u) : s.cells.toArray[j]? = some u := by
  have hlt := (List.getElem?_eq_some_iff.1 hj).1
  rw [List.getElem?_toArray]
  show (s.addr.map u8v ++ _)[j]? = _
  rw [List.getElem?_append_left hlt]; exact hj
theorem LocalV.allOne (s : LocalV) : s.cells.toArray.all (·.oneCell') = true := by
  rw [Array.all_eq_true_iff_forall_mem]
  intro u hu
  simp only [LocalV.cells, List.mem_toArray, List.mem_cons, List.mem_append, List.mem_map, List.not_mem_nil, or_false] at hu
  rcases hu with ⟨c, _, rfl⟩ | rfl | rfl <;> rfl
abbrev BLo (w : World) (b : Nat) (s : LocalV) : Prop := w.heap[b]? = some (.cells s.cells.toArray 70 (0, 0))
def local0 : LocalV := ⟨zero16, false, false⟩
theorem OP.allocLo (hdn : d < n) (h : ∀ w', Chg (fun _ => False) w w' → w'.heap.size = w.heap.size + 1 → BLo w' w.heap.size local0 → M ((d, .pointer (some ⟨w.heap.size, 0, none⟩)) :: l) w') :
    OP Tryd.prog Q ⟨some d, .alloc 70, t, pos, af, none⟩ n l w M :=
  OP.alloc1 (.agg local0.cells.toArray) hdn (by kernel_rfl) h
theorem OP.storeLo {s s0 : LocalV} (h16 : s.addr.length = 16) (h160 : s0.addr.length = 16) (hx : ev l x = some (.pointer (some ⟨b, 0, none⟩))) (hy : ev l y = some (.agg s.cells.toArray)) (hb : BLo w b s0)
    (h : ∀ w', Chg (fun k => k = b) w w' → w'.heap.size = w.heap.size → BLo w' b s → M l w') :
    OP Tryd.prog Q ⟨none, .store 70 x y, ty, pos, af, none⟩ n l w M := by
  obtain ⟨i, hi, hz⟩ := inf_of sz70
  exact OP.storeAgg hi (by rw [hz, List.size_toArray, LocalV.length h16]) hx hy s.allOne hb (by rw [List.size_toArray, List.size_toArray, LocalV.length h16, LocalV.length h160]) h
theorem R.loadLoAt {s : LocalV} {g k : Nat} (h16 : s.addr.length = 16) (hx : ev l x = some (.pointer (some ⟨g, k, none⟩))) (hc : ∀ i u, s.cells[i]? = some u → w.cell? ⟨g, k + i, none⟩ = some u) : Runs Tryd.prog l (.load 70 x) w (.agg s.cells.toArray) w :=
  R.loadAgg1 (cs := s.cells) Tryd.underlying70 rfl (by rw [LocalV.length h16]; exact sz70) hx hc
theorem R.loadLoA {s : LocalV} (h16 : s.addr.length = 16) (hx : ev l x = some (.pointer (some ⟨b, 0, none⟩))) (hb : BLo w b s) : Runs Tryd.prog l (.load 27 x) w (.agg (s.addr.map u8v).toArray) w :=
  R.loadAgg1 (cs := s.addr.map u8v) Tryd.underlying27 rfl (by rw [List.length_map, h16]; exact sz27) hx (fun j u hj => cell_at hb (by rw [Nat.zero_add]; exact LocalV.atAddr hj))
theorem R.loadSdA {s : SeedV} (h16 : s.addr.length = 16) (hx : ev l x = some (.pointer (some ⟨b, 3, none⟩))) (hb : BSd w b s) : Runs Tryd.prog l (.load 27 x) w (.agg (s.addr.map u8v).toArray) w :=
  R.loadAgg1 (cs := s.addr.map u8v) Tryd.underlying27 rfl (by rw [List.length_map, h16]; exact sz27) hx (fun j u hj => cell_at hb (SeedV.atAddr hj))
theorem R.loadRA {r : Rec} {g k : Nat} (h16 : r.addr.length = 16) (hx : ev l x = some (.pointer (some ⟨g, k + 3, none⟩))) (hc : ∀ i u, r.cells[i]? = some u → w.cell? ⟨g, k + i, none⟩ = some u) : Runs Tryd.prog l (.load 27 x) w (.agg (r.addr.map u8v).toArray) w :=
  R.loadAgg1 (cs := r.addr.map u8v) Tryd.underlying27 rfl (by rw [List.length_map, h16]; exact sz27) hx (fun j u hj => by
    rw [Nat.add_assoc]
    refine hc _ u ?_
    have := Rec.atAddr (r := r) hj
    rwa [List.getElem?_toArray] at this)

/-! ### Appends of a slice handed in -/
theorem OP.appendSrc {base : Nat} {v : Value} {bs news : List UInt8} {A : Option Addr} {m c : Nat} (hdn : d < n) (hx : ev l x = some v) (hy : ev l y = some (.slice A m c)) (hB : Buf w base v bs) (hS : Src w A m c news) (hA : A = none → c = 0) (hl : bs.length + m ≤ 140737488355328) (hb : base ≤ w.heap.size)
    (h : ∀ v' w', Buf w' base v' (bs ++ news) → Moved w w' v v' → M ((d, v') :: l) w') :
    OP Tryd.prog Q ⟨some d, .call { callee := .builtin .append, args := #[x, y], argTypes := #[36, 36] }, t, pos, af, none⟩ n l w M := by
  cases A with
  | none =>
    have hc := hA rfl
    have hm : m = 0 := by have := hS.cap; omega
    subst hc hm
    have hn : news = [] := List.eq_nil_of_length_eq_zero hS.len
    subst hn
    obtain ⟨i0, hi, hz0, hz1, hz2⟩ := info_parts Tryd.info5
    refine OP.val (v := v) (w' := w) hdn (fun r _ _ _ _ _ he => ?_) (h v w (by rw [List.append_nil]; exact hB) (Moved.refl _ _))
    have hr := fun ty => run_append_owned_none (P := Tryd.prog) (w := w) base 36 ty 5 i0 1 Tryd.underlying36 hi v bs.length (bs.map u8v) hB
    simp only [execOp, resolve, invoke, builtin, Sem.run_bind, Sem.run_pure, Result.andThen_ok, List.map_toArray, List.map_cons, List.map_nil, he x _ hx, he y _ hy]
    rw [hr]; rfl
  | some ad =>
    refine OP.append news hdn hx hy hB hS.len ?_ (by have := hS.len; omega) hb h
    intro j u hj
    have hlt := (List.getElem?_eq_some_iff.1 hj).1
    rw [List.length_map, hS.len] at hlt
    obtain ⟨g, o, hA2, hcell⟩ := hS.cells (by omega)
    obtain rfl := Option.some.inj hA2
    rw [List.getElem?_map] at hj
    obtain ⟨c1, hc1, rfl⟩ := Option.map_eq_some_iff.1 hj
    rw [Addr.add_none]
    exact hcell j c1 hc1

/-! ### strings.Count of one byte -/
theorem R.countStr {s : List UInt8} {c : UInt8} {ts : Array TypeId} (hx : ev l x = some (sv s)) (hy : ev l y = some (u8v c)) : Runs Tryd.prog l (.call { callee := .value (.func 56), args := #[x, y], argTypes := ts }) w (.int .i64 ((Lib.countByte s c : Nat) : Int)) w := fun r _ _ _ _ _ he => by
  have hcf : (callFunc 56 #[sv s, u8v c]).run Tryd.prog w = .ok (.value (.int .i64 ((Lib.countByte s c : Nat) : Int))) w := by
    unfold callFunc
    have h1 : (Tryd.f56.name == "runtime.NumGoroutine") = false := by kernel_rfl
    have h2 : Tryd.f56.body.isNone = true := by kernel_rfl
    have h3 : Extern.findNext Tryd.f56 = none := by kernel_rfl
    have h4 : Extern.find Tryd.f56 = some Extern.BytealgCount.count := by kernel_rfl
    have h5 := Lib.run_countString (P := Tryd.prog) ⟨s.toArray⟩ (c.toNat : Int) w
    have e1 : ((c.toNat : Int).toNat.toUInt8) = c := by
      apply UInt8.toNat_inj.1
      simp
    rw [e1] at h5
    simp only [Sem.run_bind, run_program, Result.andThen_ok, Tryd.func56, h1, h2, Bool.false_eq_true, if_false, if_true, run_mark, h3, h4]
    show Result.andThen ((Extern.BytealgCount.count #[.string ⟨s.toArray⟩, .int .u8 (c.toNat : Int)]).run Tryd.prog w) _ = _
    rw [h5]
    simp
  simp only [execOp, resolve, List.map_toArray, List.map_cons, List.map_nil, he x _ hx, he y _ hy, he (.func 56) _ rfl, Deferred.ofValue, Sem.run_bind, Sem.run_pure, Result.andThen_ok, invoke, Array.append_empty, Array.empty_append]
  exact hcf
end
end Go.Proofs.YthcpjcgjmdfpjaaDoor

namespace Go.Proofs.YthcpjcgjmdfpjaaDoor
open Go Go.RowKit
set_option maxRecDepth 100000
set_option maxHeartbeats 4000000

theorem Src.cellAt {w : World} {g m c j : Nat} {bs : List UInt8} {b : UInt8} (h : Src w (some ⟨g, 0, none⟩) m c bs) (hj : bs[j]? = some b) : w.cell? ⟨g, 0 + j * 1, none⟩ = some (u8v b) := by
  have hlt := (List.getElem?_eq_some_iff.1 hj).1
  obtain ⟨g2, o, hA, hc⟩ := h.cells (by have := h.len; omega)
  have hA2 := Option.some.inj hA
  injection hA2 with e1 e2
  subst e1 e2
  rw [Nat.mul_one]; exact hc j b hj
theorem build33_05 (id : Int) (s : List UInt8) (t : Int) (w : World) : (Instr.build 33 #[(0, .int .i64 id), (5, .agg #[sv s, .int .i64 t])]).run Tryd.prog w = .ok (.agg (Msg.cells ⟨id, false, false, false, 0, s, t, [], []⟩ (.slice none 0 0) (.slice none 0 0)).toArray) w := by unfold sv; kernel_rfl
theorem count_one (s : List UInt8) (c : UInt8) (w0 : World) : Calls Tryd.prog 54 #[sv s, sv [c]] w0 fun e w' => e = .returned (.int .i64 ((Lib.countByte s c : Nat) : Int)) ∧ w0 = w' := by
  refine calls_cw (args := [sv s, sv [c]]) Tryd.func54 rfl rfl ?_
  show CW _ _ _ 34 [(0, sv s), (1, sv [c])] w0
  refine CW.rseq ?_
  refine WL.op (by decide) (R.assign rfl) ?_
  refine WL.next ?_
  refine CW.seq ?_
  refine CW.rseq ?_
  refine WL.op (by decide) (R.move rfl) ?_
  refine WL.op (by decide) (R.lenS rfl rfl) ?_
  refine WL.op (by decide) (R.eql rfl rfl (decide_eq_false (by simp))) ?_
  refine WL.next ?_
  refine CW.condF rfl ?_
  refine CW.skip ?_
  refine EW.next ?_
  refine CW.seq ?_
  refine CW.rseq ?_
  refine WL.op (by decide) (R.move rfl) ?_
  refine WL.op (by decide) (R.lenS rfl rfl) ?_
  refine WL.op (by decide) (R.eql rfl rfl (decide_eq_true (rfl))) ?_
  refine WL.next ?_
  refine CW.condT rfl ?_
  refine CW.rseq ?_
  refine WL.op (by decide) (R.move rfl) ?_
  refine WL.op (by decide) (R.move rfl) ?_
  refine WL.op (by decide) (R.indexS (i := 0) rfl rfl rfl rfl) ?_
  refine WL.op (by decide) (R.countStr rfl rfl) ?_
  refine WL.op (by decide) (R.assign rfl) ?_
  refine WL.next ?_
  refine CW.ret ?_
  refine EW.thenRet ?_
  exact EW.ret1 (.inl rfl) rfl rfl ⟨rfl, rfl⟩
theorem dots_any (s : List UInt8) (w0 : World) : Calls Tryd.prog 49 #[sv s] w0 fun e w' => e = .returned (.int .i64 ((Lib.countByte s 46 : Nat) : Int)) ∧ w0 = w' := by
  refine calls_cw (args := [sv s]) Tryd.func49 rfl rfl ?_
  show CW _ _ _ 5 [(0, sv s)] w0
  refine CW.rseq ?_
  refine WL.op (by decide) (R.assign rfl) ?_
  refine WL.next ?_
  refine CW.rseq ?_
  refine WL.op (by decide) (R.move rfl) ?_
  refine WL.eff rfl (OP.call (by decide) Tryd.func54 (by kernel_rfl) (by kernel_rfl) rfl (count_one _ _ _) ?_)
  rintro ed _ ⟨rfl, rfl⟩
  refine ⟨_, rfl, ?_⟩
  refine WL.op (by decide) (R.assign rfl) ?_
  refine WL.next ?_
  refine CW.ret ?_
  exact EW.ret1 (.inl rfl) rfl rfl ⟨rfl, rfl⟩
theorem fit04_any (w0 : World) (hG : Glob w0) : Calls Tryd.prog 29 #[] w0 fun e w' => e = .returned (.bool true) ∧ Chg (fun _ => False) w0 w' := by
  have hC := Chg.refl (fun _ => False) w0
  refine calls_cw (args := []) Tryd.func29 rfl rfl ?_
  show CW _ _ _ 47 [] w0
  refine CW.rseq ?_
  refine WL.op (by decide) (R.assign rfl) ?_
  refine WL.next ?_
  refine CW.rseq ?_
  refine WL.op (by decide) (R.build (parts := [(0, _), (1, _)]) (vals := [(0, _), (1, _)]) rfl (fun w => build25_2 [97] 1 w)) ?_
  refine WL.op (by decide) (R.build (parts := [(0, _), (5, _)]) (vals := [(0, _), (5, _)]) rfl (fun w => build33_05 258 [97] 1 w)) ?_
  refine WL.eff rfl (OP.allocM (by decide) ?_)
  intro w1 hc_w1 hs_w1 hB1
  obtain ⟨b1, he_b1⟩ : ∃ b, b = w0.heap.size := ⟨_, rfl⟩
  rw [← he_b1] at hB1 ⊢
  have hC := hC.trans hc_w1
  have hz_w1 := hc_w1.size
  refine WL.eff rfl (OP.storeM rfl rfl hB1 ?_)
  intro w2 hc_w2 hs_w2 hB1
  have hC := hC.thenB hc_w2 (by omega)
  refine WL.next ?_
  refine CW.rseq ?_
  refine WL.op (by decide) (R.loadM rfl hB1) ?_
  refine WL.eff rfl (OP.call (by decide) Tryd.func24 (by kernel_rfl) (by kernel_rfl) rfl (encode_src _ _ _ ⟨_, _, rfl, (RSl.nil _), (RSl.nil _)⟩ (MBack.quest (by decide) (by decide) (by kernel_rfl) (by decide))) ?_)
  rintro ed w3 ⟨gE, ceE, bsE, rfl, hbsE, hBufE, hSrcE, hmoreE, hdecE, hblE, hgeE, hglE, hc_w3⟩
  refine ⟨_, rfl, ?_⟩
  have hB1 := hc_w3.at hB1 (fun e => e)
  have hC := hC.trans hc_w3
  have hz_w3 := hc_w3.size
  have hK3 : Chg (fun _ => False) w3 w3 := Chg.refl _ _
  have hbe : bsE = [1, 2, 0, 0, 0, 1, 0, 0, 0, 0, 0, 0, 1, 97, 0, 0, 1, 0, 1] := hbsE.trans (by kernel_rfl)
  refine WL.op (by decide) (R.assign rfl) ?_
  refine WL.next ?_
  refine CW.rseq ?_
  refine WL.op (by decide) (R.move rfl) ?_
  refine WL.eff rfl (OP.call (by decide) Tryd.func27 (by kernel_rfl) (by kernel_rfl) rfl (decode_any _ _ _ _ _ (hSrcE.keep0 hK3) (by rintro _ _ ⟨⟩; omega) (by omega) (hG.keep0 hC)) ?_)
  rintro ed w4 ⟨hc_w4, hres⟩
  rw [hdecE] at hres
  obtain ⟨vD, rfl, vaD, vbD, rfl, hvaD, hvbD, hoaD, hobD⟩ := hres
  obtain ⟨AaD, caD, rfl, _⟩ := hvaD.form
  obtain ⟨AbD, cbD, rfl, _⟩ := hvbD.form
  have hlenD := len_dec hdecE
  refine ⟨_, rfl, ?_⟩
  have hB1 := hc_w4.at hB1 (fun e => e)
  have hC := hC.trans hc_w4
  have hK3 := hK3.trans hc_w4
  have hz_w4 := hc_w4.size
  have hK4 : Chg (fun _ => False) w4 w4 := Chg.refl _ _
  refine WL.op (by decide) (R.move rfl) ?_
  refine WL.op (by decide) (R.extract rfl rfl) ?_
  refine WL.op (by decide) (R.extract rfl rfl) ?_
  refine WL.eff rfl (OP.allocM (by decide) ?_)
  intro w5 hc_w5 hs_w5 hB3
  obtain ⟨b3, he_b3⟩ : ∃ b, b = w4.heap.size := ⟨_, rfl⟩
  rw [← he_b3] at hB3 ⊢
  have hB1 := hc_w5.at hB1 (fun e => e)
  have hC := hC.trans hc_w5
  have hK3 := hK3.trans hc_w5
  have hK4 := hK4.trans hc_w5
  have hz_w5 := hc_w5.size
  refine WL.eff rfl (OP.storeM rfl rfl hB3 ?_)
  intro w6 hc_w6 hs_w6 hB3
  have hB1 := hc_w6.at hB1 (fun e => by omega)
  have hC := hC.thenB hc_w6 (by omega)
  have hK3 := hK3.thenB hc_w6 (by omega)
  have hK4 := hK4.thenB hc_w6 (by omega)
  refine WL.op (by decide) (R.assign rfl) ?_
  refine WL.next ?_
  refine CW.rseq ?_
  refine WL.op (by decide) (R.move rfl) ?_
  refine WL.op (by decide) (R.lenSlice rfl Tryd.underlying36 rfl) ?_
  refine WL.op (by decide) (R.eql rfl rfl (decide_eq_true (by rw [hbe]; rfl))) ?_
  refine WL.op (by decide) (R.move rfl) ?_
  refine WL.gop (by decide) rfl rfl rfl (R.move rfl) ?_
  refine WL.gop (by decide) rfl rfl rfl (R.indexAddr1 (i := 0) Tryd.underlying36 sz5 rfl rfl rfl (by rw [hbe]; decide)) ?_
  refine WL.gop (by decide) rfl rfl rfl (R.load Tryd.underlying5 rfl rfl ((hSrcE.keep0 hK3).cellAt (b := 1) (by rw [hbe]; rfl))) ?_
  refine WL.gop (by decide) rfl rfl rfl (R.eql rfl rfl (decide_eq_true (rfl))) ?_
  refine WL.op (by decide) (R.pickT rfl rfl) ?_
  refine WL.op (by decide) (R.move rfl) ?_
  refine WL.gop (by decide) rfl rfl rfl (R.move rfl) ?_
  refine WL.gop (by decide) rfl rfl rfl (R.indexAddr1 (i := 1) Tryd.underlying36 sz5 rfl rfl rfl (by rw [hbe]; decide)) ?_
  refine WL.gop (by decide) rfl rfl rfl (R.load Tryd.underlying5 rfl rfl ((hSrcE.keep0 hK3).cellAt (b := 2) (by rw [hbe]; rfl))) ?_
  refine WL.gop (by decide) rfl rfl rfl (R.eql rfl rfl (decide_eq_true (rfl))) ?_
  refine WL.op (by decide) (R.pickT rfl rfl) ?_
  refine WL.op (by decide) (R.move rfl) ?_
  refine WL.gop (by decide) rfl rfl rfl (R.move rfl) ?_
  refine WL.gop (by decide) rfl rfl rfl (R.eql rfl rfl (decide_eq_true (rfl))) ?_
  refine WL.op (by decide) (R.pickT rfl rfl) ?_
  refine WL.op (by decide) (R.move rfl) ?_
  refine WL.gop (by decide) rfl rfl rfl (FA33_5 rfl) ?_
  refine WL.gop (by decide) rfl rfl rfl (R.loadQ rfl hB3) ?_
  refine WL.gop (by decide) rfl rfl rfl (FA33_5 rfl) ?_
  refine WL.gop (by decide) rfl rfl rfl (R.loadQ rfl hB1) ?_
  refine WL.gop (by decide) rfl rfl rfl (R.eql25 (c := true) rfl rfl (decide_eq_true ⟨rfl, rfl⟩)) ?_
  refine WL.op (by decide) (R.pickT rfl rfl) ?_
  refine WL.op (by decide) (R.move rfl) ?_
  refine WL.geff rfl rfl rfl (OP.call (by decide) Tryd.func40 (by kernel_rfl) (by kernel_rfl) rfl (right_any _ _ (by decide)) ?_)
  rintro ed _ ⟨rfl, rfl⟩
  refine ⟨_, rfl, ?_⟩
  refine WL.op (by decide) (R.pickT rfl rfl) ?_
  refine WL.op (by decide) (R.move rfl) ?_
  refine WL.geff rfl rfl rfl (OP.call (by decide) Tryd.func49 (by kernel_rfl) (by kernel_rfl) rfl (dots_any _ _) ?_)
  rintro ed _ ⟨rfl, rfl⟩
  refine ⟨_, rfl, ?_⟩
  refine WL.gop (by decide) rfl rfl rfl (R.eql rfl rfl (decide_eq_true (rfl))) ?_
  refine WL.op (by decide) (R.pickT rfl rfl) ?_
  refine WL.op (by decide) (R.assign rfl) ?_
  refine WL.next ?_
  refine CW.ret ?_
  exact EW.ret1 (.inl rfl) rfl rfl ⟨rfl, hC⟩
end Go.Proofs.YthcpjcgjmdfpjaaDoor

namespace Go.Proofs.YthcpjcgjmdfpjaaDoor
open Go Go.ChangeShapes Go.WideShapes Go.ChangeAt Go.RowKit
set_option maxRecDepth 100000

theorem Sl.keep0 {α : Type} {cells : α → List Value} {n : Nat} {w w' : World} {A : Option Addr} {m : Nat} {l : List α} (h : Sl cells n w A m l) (hc : Chg (fun _ => False) w w') : Sl cells n w' A m l := h.kept hc
theorem Sl.cellsAt {α : Type} {cells : α → List Value} {N : Nat} {w : World} {g o m : Nat} {ls : List α} (h : Sl cells N w (some ⟨g, o, none⟩) m ls) {j : Nat} {a : α} (hj : ls[j]? = some a) : ∀ i u, (cells a)[i]? = some u → w.cell? ⟨g, o + j * N + i, none⟩ = some u := by
  obtain ⟨_, g2, o2, hA, hc⟩ := h.at hj
  have hA2 := Option.some.inj hA
  injection hA2 with e1 e2
  subst e1 e2
  exact hc
/-- Where the tail of a slice lies. -/
def tailA (A : Option Addr) (N c : Nat) : Option Addr := A.map fun a => if c = 1 then a else ⟨a.block, a.off + N, none⟩
theorem Sl.tail {α : Type} {cells : α → List Value} {N : Nat} {w : World} {A : Option Addr} {m c : Nat} {ls : List α} (h : Sl cells N w A m ls) (hm : m ≤ c) (h1 : 1 ≤ m) : Sl cells N w (tailA A N c) (m - 1) (ls.drop 1) := by
  refine ⟨by rw [List.length_drop, h.1], fun h0 => ?_⟩
  obtain ⟨g, o, hA, hc⟩ := h.2 (by omega)
  subst hA
  refine ⟨g, o + N, ?_, fun j a i u hj hi => ?_⟩
  · unfold tailA
    rw [Option.map_some, if_neg (by omega)]
  · rw [List.getElem?_drop] at hj
    have := hc (1 + j) a i u hj hi
    rw [show o + N + j * N + i = o + (1 + j) * N + i by rw [Nat.add_mul, Nat.one_mul]; omega]
    exact this
theorem R.sliceTail {l : Env} {w : World} {x y : Operand} {t elem g ofs m cap N : Nat} {k1 : IntKind} {a : Int} (ht : Tryd.prog.underlying t = some (.slice elem)) (hs : (Tryd.prog.info? elem).map (·.size) = some N) (hx : ev l x = some (.slice (some ⟨g, ofs, none⟩) m cap)) (ha : ev l y = some (.int k1 a))
    (hea : a = 1) (h1 : 1 ≤ m) (h2 : m ≤ cap) :
    Runs Tryd.prog l (.slice t x (some y) none none) w (.slice (tailA (some ⟨g, ofs, none⟩) N cap) (m - 1) (cap - 1)) w := fun r _ _ _ _ _ he => by
  subst hea
  obtain ⟨inf, hi', hz⟩ := inf_of hs
  have hb2 : (Instr.sliceBound (.int k1 1) m .sliceB).run Tryd.prog w = .ok 1 w := by
    have := run_sliceBound (P := Tryd.prog) (w := w) k1 1 m .sliceB (by omega) (by omega)
    simpa using this
  have hbs : (Instr.sliceBounds true m cap (some (.int k1 1)) none none).run Tryd.prog w = .ok (1, m, cap) w := by
    simp [Instr.sliceBounds, hb2]
  have hat : (Instr.sliceAt t (.slice (some ⟨g, ofs, none⟩) m cap) (some (.int k1 1)) none none).run Tryd.prog w = .ok (.slice (tailA (some ⟨g, ofs, none⟩) N cap) (m - 1) (cap - 1)) w := by
    simp only [Instr.sliceAt, Instr.slice, Sem.run_bind, run_underlying ht, Result.andThen_ok, hbs, sizeOf, typeInfo, run_program, hi', hz, Sem.run_pure]
    unfold tailA
    by_cases hq : cap = 1 <;> simp [hq, Addr.add_none]
  simp only [execOp, he x _ hx, Option.map_some, Option.map_none, he y _ ha, Sem.run_bind, hat, Result.andThen_ok]
  rfl
theorem tail_ok {l : List SeedV} (h : ∀ s ∈ l, s.Ok) : ∀ s ∈ l.drop 1, s.Ok := fun s hs => h s (List.mem_of_mem_drop hs)
theorem tail_16 {l : List SeedV} (h : ∀ s ∈ l, s.Ok) : ∀ s ∈ l.drop 1, s.addr.length = 16 := fun s hs => (h s (List.mem_of_mem_drop hs)).a
/-- What is appended to bytes that are owned. -/
theorem appended {w w' : World} {base g c : Nat} {bs news : List UInt8} {v' : Value} (h0 : bs ≠ []) (hB : Buf w' base v' (bs ++ news)) (hM : Moved w w' (.slice (some ⟨g, 0, none⟩) bs.length c) v') (hg : g < w.heap.size) :
    ∃ g' c', v' = .slice (some ⟨g', 0, none⟩) (bs ++ news).length c' ∧ Src w' (some ⟨g', 0, none⟩) (bs ++ news).length c' (bs ++ news) ∧ Chg (fun k => k = g) w w' ∧ g' < w'.heap.size := by
  have hc := (Chg.moved hM).mono (S' := fun k => k = g) (fun k _ e => Option.some.inj e)
  obtain ⟨g', c', rfl, hge, hgl, hle, hcell⟩ := hB.open (by simp [h0])
  exact ⟨g', c', rfl, Buf.src2 (base := 0) hle hcell, hc, hgl⟩
theorem open_bytesN {H : Type} {enc : TypeId × Value → H} {W : World} {base : Nat} {v : Value} {d : DataW H} {p : List MemPlace} (hval : Value.okWide Tryd.prog W .any base 36 v) (hd : DataW.Trod enc Tryd.prog W 0 (fun _ => true) true 36 v d p) :
    ∃ A m c bs, v = .slice A m c ∧ Src W A m c bs ∧ (∀ g o, A = some ⟨g, o, none⟩ → g < W.heap.size) ∧ (A = none → c = 0) := by
  obtain ⟨A, m, c, bs, rfl, hS, hg⟩ := open_bytes hval hd
  refine ⟨A, m, c, bs, rfl, hS, hg, fun hA => ?_⟩
  subst hA
  obtain ⟨fuel, hf⟩ := hd
  have h3 : (Value.slice none m c).cells.toList = [.slice none m c] := rfl
  rcases DataW.trod_slice Tryd.underlying36 hf with ⟨h1, _⟩ | ⟨a, len, cap, _, _, _, _, h1, _⟩
  · rw [h3] at h1; injection h1 with h1 _; injection h1
  · rw [h3] at h1; injection h1 with h1 _; injection h1 with e _ _; cases e
theorem ne_of_dec {bs : List UInt8} {m : Msg} (h : decode bs = some m) : bs ≠ [] := by
  intro e; subst e; have := decode_ge h; simp at this
end Go.Proofs.YthcpjcgjmdfpjaaDoor

namespace Go.Proofs.YthcpjcgjmdfpjaaDoor
open Go Go.RowKit
set_option maxRecDepth 100000

/-- One bit of a number, as a number. -/
def bitI (k : Nat) (n : Int) : Int := n / ((2 ^ k : Nat) : Int) % 2 * ((2 ^ k : Nat) : Int)
def kindS (s : SeedV) : Int := s.kind % 8
/-- The record of a seed. -/
def recS (s : SeedV) : Rec :=
  if kindS s = 0 ∨ kindS s = 1 then ⟨nameN s.name, 1, s.ttl % 65536, mappedL ++ s.addr.take 4, [], []⟩
  else if kindS s = 2 ∨ kindS s = 3 then ⟨nameN s.name, 28, s.ttl % 65536, s.addr, [], []⟩
  else if kindS s = 4 then ⟨nameN s.name, 5, s.ttl % 65536, zero16, nameN (s.name / 2 ^ (3 : Int).toNat), []⟩
  else if kindS s = 5 then ⟨nameN s.name, 12, s.ttl % 65536, zero16, nameN (s.name / 2 ^ (3 : Int).toNat), []⟩
  else if kindS s = 6 then ⟨nameN s.name, 6, s.ttl % 65536, zero16, [], s.data.take 255⟩
  else ⟨nameN s.name, 16, s.ttl % 65536, zero16, [], s.data.take 255⟩
def codesA : List Int := [0, 0, 3, 2]
def codeN (f : Int) : Int := (codesA[(f / 2 ^ (3 : Int).toNat % 4).toNat]?).getD 0
def isSoa (r : Rec) : Bool := decide (r.type = 6)
def ansS (l : List SeedV) : List Rec := (l.map recS).filter (fun r => !isSoa r)
def authS (l : List SeedV) : List Rec := (l.map recS).filter isSoa
/-- The message of seeds. -/
def msgS (id f : Int) (q : SeedV) (l : List SeedV) : Msg :=
  ⟨id % 65536, decide (f % 2 > 0), decide (bitI 1 f > 0), decide (bitI 2 f > 0), codeN f, nameN q.name, (recS q).type, ansS (l.take 32), authS (l.take 32)⟩

theorem codeN_at (f : Int) : codesA[(f / 2 ^ (3 : Int).toNat % 4).toNat]? = some (codeN f) := by
  have h : (f / 2 ^ (3 : Int).toNat % 4).toNat < codesA.length := by show _ < 4; omega
  unfold codeN
  rw [List.getElem?_eq_getElem h]; rfl
theorem codeN_in (f : Int) : 0 ≤ codeN f ∧ codeN f ≤ 15 := by
  have h : codeN f ∈ codesA := List.mem_of_getElem? (codeN_at f)
  simp [codesA] at h
  omega
theorem addr_len {s : SeedV} (h : s.addr.length = 16) : (mappedL ++ s.addr.take 4).length = 16 := by simp [mappedL, h]
theorem recS_addr {s : SeedV} (h : s.addr.length = 16) : (recS s).addr.length = 16 := by
  unfold recS
  split
  · exact addr_len h
  split
  · exact h
  split
  · rfl
  split
  · rfl
  split <;> rfl
theorem recS_name (s : SeedV) : (recS s).name = nameN s.name := by
  unfold recS
  split
  · rfl
  split
  · rfl
  split
  · rfl
  split
  · rfl
  split <;> rfl
theorem recS_text (s : SeedV) : (recS s).text = [] ∨ (recS s).text = nameN (s.name / 2 ^ (3 : Int).toNat) := by
  unfold recS
  split
  · exact .inl rfl
  split
  · exact .inl rfl
  split
  · exact .inr rfl
  split
  · exact .inr rfl
  split <;> exact .inl rfl
theorem recS_type (s : SeedV) : 1 ≤ (recS s).type ∧ (recS s).type ≤ 65535 := by
  unfold recS
  split
  · exact ⟨by simp, by simp⟩
  split
  · exact ⟨by simp, by simp⟩
  split
  · exact ⟨by simp, by simp⟩
  split
  · exact ⟨by simp, by simp⟩
  split <;> exact ⟨by simp, by simp⟩
theorem recS_right (s : SeedV) : rightR (recS s) = true := by
  have hn := (nameN_ok s.name).1
  have hn2 := (nameN_ok (s.name / 2 ^ (3 : Int).toNat)).1
  have hn3 : namesL (nameN (s.name / 8)) = true := (nameN_ok _).1
  have h0 : 0 ≤ s.ttl % 65536 := by omega
  have h1 : s.ttl % 65536 ≤ 1048576 := by omega
  have hm : (mappedL ++ s.addr.take 4).take 12 = mappedL := List.take_left' rfl
  unfold recS
  split
  · simp [rightR, hn, h0, h1, hm]
  split
  · simp [rightR, hn, h0, h1]
  split
  · simp [rightR, hn, h0, h1, hn3]
  split
  · simp [rightR, hn, h0, h1, hn3]
  split
  · simp [rightR, hn, h0, h1]; omega
  · simp [rightR, hn, h0, h1]; omega
theorem filter_two {α : Type} (p : α → Bool) (l : List α) : (l.filter (fun x => !p x)).length + (l.filter p).length = l.length := by
  induction l with
  | nil => rfl
  | cons x xs ih =>
    cases h : p x <;> simp [h] <;> omega
theorem mem_ansS {l : List SeedV} {r : Rec} (h : r ∈ ansS l ++ authS l) : ∃ s ∈ l, r = recS s := by
  rcases List.mem_append.1 h with h | h
  · have := (List.mem_filter.1 h).1
    obtain ⟨s, hs, rfl⟩ := List.mem_map.1 this
    exact ⟨s, hs, rfl⟩
  · have := (List.mem_filter.1 h).1
    obtain ⟨s, hs, rfl⟩ := List.mem_map.1 this
    exact ⟨s, hs, rfl⟩
/-- A message of seeds fits. -/
theorem MBack.seeds {id f : Int} {q : SeedV} {l : List SeedV} (hl : ∀ s ∈ l, s.addr.length = 16) : MBack (msgS id f q l) := by
  have hrec : ∀ r ∈ ansS (l.take 32) ++ authS (l.take 32), r.addr.length = 16 ∧ (splitL r.name).length ≤ 16 ∧ (splitL r.text).length ≤ 16 ∧ rightR r = true := by
    intro r hr
    obtain ⟨s, hs, rfl⟩ := mem_ansS hr
    refine ⟨recS_addr (hl s (List.mem_of_mem_take hs)), ?_, ?_, recS_right s⟩
    · rw [recS_name]; exact (nameN_ok _).2.1
    · rcases recS_text s with h | h
      · rw [h]; decide
      · rw [h]; exact (nameN_ok _).2.1
  refine ⟨?_, (nameN_ok q.name).2.1, fun r hr => ⟨(hrec r hr).1, (hrec r hr).2.1, (hrec r hr).2.2.1⟩⟩
  have hsum : (ansS (l.take 32)).length + (authS (l.take 32)).length ≤ 32 := by
    have := filter_two isSoa ((l.take 32).map recS)
    unfold ansS authS
    rw [this, List.length_map, List.length_take]; omega
  have ha : (ansS (l.take 32)).all rightR = true := List.all_eq_true.2 fun r hr => (hrec r (by simp [hr])).2.2.2
  have hu : (authS (l.take 32)).all rightR = true := List.all_eq_true.2 fun r hr => (hrec r (by simp [hr])).2.2.2
  have h1 := codeN_in f
  have h2 := recS_type q
  have h3 := (nameN_ok q.name).1
  have h4 : 0 ≤ id % 65536 ∧ id % 65536 ≤ 65535 := by omega
  unfold allM msgS
  simp [h1, h2, h3, h4, ha, hu]
  exact hsum

/-- Few and short? -/
def lightS (l : List SeedV) : Bool := decide (l.length ≤ 60) && l.all (fun s => decide (s.data.length ≤ 400))

theorem and_pow (x k : Nat) : x &&& 2 ^ k = x / 2 ^ k % 2 * 2 ^ k := by
  apply Nat.eq_of_testBit_eq
  intro i
  rw [Nat.testBit_and, Nat.testBit_two_pow, Nat.testBit_mul_two_pow]
  by_cases h : k = i
  · subst h
    simp [Nat.testBit, Nat.shiftRight_eq_div_pow]
  · by_cases hi : k ≤ i
    · have : Nat.testBit (x / 2 ^ k % 2) (i - k) = false := by
        have := Nat.testBit_mod_two_pow (x / 2 ^ k) 1 (i - k)
        rw [Nat.pow_one] at this
        rw [this]; simp; omega
      simp [this, h]
    · simp [h, hi]
theorem binOp_bit (t : TypeId) (k : Nat) (hk : k ≤ 61) (n : Int) : binOp .and t (.int .i64 n) (.int .i64 ((2 ^ k : Nat) : Int)) = pure (.int .i64 (bitI k n)) := by
  simp only [binOp, Op.intBits, ne_eq, not_true, ite_false]
  have hp : 2 ^ k ≤ 2 ^ 61 := Nat.pow_le_pow_right (by decide) hk
  have h0 : 0 < 2 ^ k := Nat.two_pow_pos k
  have e1 : (BitVec.ofInt IntKind.i64.bits n).toNat = (n % (2 ^ 64 : Nat)).toNat := by
    show (BitVec.ofInt 64 n).toNat = _
    rw [BitVec.toNat_ofInt]
  have e2 : (BitVec.ofInt IntKind.i64.bits ((2 ^ k : Nat) : Int)).toNat = 2 ^ k := by
    show (BitVec.ofInt 64 ((2 ^ k : Nat) : Int)).toNat = _
    rw [BitVec.toNat_ofInt]
    have : ((2 ^ k : Nat) : Int) % ((2 ^ 64 : Nat) : Int) = ((2 ^ k : Nat) : Int) := Int.emod_eq_of_lt (by omega) (by omega)
    rw [this, Int.toNat_natCast]
  have e : (BitVec.ofInt IntKind.i64.bits n &&& BitVec.ofInt IntKind.i64.bits ((2 ^ k : Nat) : Int)).toNat = (n % (2 ^ 64 : Nat)).toNat / 2 ^ k % 2 * 2 ^ k := by
    rw [BitVec.toNat_and, e1, e2, and_pow]
  have e3 : (((n % (2 ^ 64 : Nat)).toNat / 2 ^ k % 2 * 2 ^ k : Nat) : Int) = bitI k n := by
    unfold bitI
    rw [Int.natCast_mul, Int.natCast_emod, Int.natCast_ediv, Int.toNat_of_nonneg (Int.emod_nonneg _ (by decide))]
    congr 1
    have hd : ((2 ^ 64 : Nat) : Int) = ((2 ^ k : Nat) : Int) * (2 * ((2 ^ (63 - k) : Nat) : Int)) := by
      have : (2 : Nat) ^ 64 = 2 ^ k * (2 * 2 ^ (63 - k)) := by
        rw [← Nat.pow_succ', ← Nat.pow_add]; congr 1; omega
      rw [this]; push_cast; rfl
    have hdiv := Int.emod_add_mul_ediv n ((2 ^ 64 : Nat) : Int)
    obtain ⟨q, hq⟩ : ∃ q, q = n / ((2 ^ 64 : Nat) : Int) := ⟨_, rfl⟩
    obtain ⟨r, hr⟩ : ∃ r, r = n % ((2 ^ 64 : Nat) : Int) := ⟨_, rfl⟩
    rw [← hq, ← hr] at hdiv
    rw [← hr]
    rw [← hdiv, hd]
    have : r + ((2 ^ k : Nat) : Int) * (2 * ((2 ^ (63 - k) : Nat) : Int)) * q = r + ((2 ^ k : Nat) : Int) * (2 * (((2 ^ (63 - k) : Nat) : Int) * q)) := by
      rw [Int.mul_assoc, Int.mul_assoc]
    rw [this, Int.add_mul_ediv_left _ _ (by omega)]
    omega
  rw [e, e3]
  have h1 : 0 ≤ bitI k n ∧ bitI k n ≤ ((2 ^ k : Nat) : Int) := by
    unfold bitI
    have : n / ((2 ^ k : Nat) : Int) % 2 = 0 ∨ n / ((2 ^ k : Nat) : Int) % 2 = 1 := by omega
    rcases this with h | h <;> rw [h] <;> omega
  rw [IntWalk.i64_in _ (by omega)]
theorem R.bit (k : Nat) {l : Env} {w : World} {x y : Operand} {t ty : TypeId} {P : Program} {n m : Int} (hx : ev l x = some (.int .i64 n)) (hy : ev l y = some (.int .i64 m)) (hk : k ≤ 61) (hm : m = ((2 ^ k : Nat) : Int)) : Runs P l (.binOp .and t x y ty) w (.int .i64 (bitI k n)) w := by
  subst hm
  exact R.bin hx hy (binOp_bit t k hk n)
end Go.Proofs.YthcpjcgjmdfpjaaDoor

namespace Go.Proofs.YthcpjcgjmdfpjaaDoor
open Go Go.RowKit
set_option maxRecDepth 100000
set_option maxHeartbeats 4000000

def fatS (s : SeedV) : Bool := decide (s.data.length ≤ 400)
theorem light_long {l : List SeedV} (h : 60 < l.length) : lightS l = false := by unfold lightS; simp; omega
theorem light_fat {l : List SeedV} {j : Nat} {s : SeedV} (hs : l[j]? = some s) (h : 400 < s.data.length) : lightS l = false := by
  unfold lightS
  have : (l.all fun s => decide (s.data.length ≤ 400)) = false := List.all_eq_false.2 ⟨s, List.mem_of_getElem? hs, by simp; omega⟩
  simp [this]
theorem light_yes {l : List SeedV} (h : ¬ 60 < l.length) (ha : l.all fatS = true) : lightS l = true := by
  unfold lightS
  have : (l.all fun s => decide (s.data.length ≤ 400)) = true := ha
  simp [this]; omega
theorem fat_take {l : List SeedV} {j : Nat} {s : SeedV} (hs : l[j]? = some s) (h : s.data.length ≤ 400) (ht : (l.take j).all fatS = true) : (l.take (j + 1)).all fatS = true := by
  rw [List.take_add_one, hs, List.all_append, ht]
  simp [fatS, h]
theorem light_any (A : Option Addr) (m c : Nat) (l : List SeedV) (w0 : World) (hL : Sl SeedV.cells 20 w0 A m l) (hO : ∀ s ∈ l, s.Ok) (hm : m ≤ maxLen) :
    Calls Tryd.prog 36 #[.slice A m c] w0 fun e w' => e = .returned (.bool (lightS l)) ∧ Chg (fun _ => False) w0 w' := by
  have hlm := hL.1
  have hC := Chg.refl (fun _ => False) w0
  have hmx : maxLen = 9223372036854775807 := rfl
  refine calls_cw (args := [.slice A m c]) Tryd.func36 rfl rfl ?_
  show CW _ _ _ 19 [(0, .slice A m c)] w0
  refine CW.rseq ?_
  refine WL.op (by decide) (R.assign rfl) ?_
  refine WL.next ?_
  refine CW.seq ?_
  refine CW.rseq ?_
  refine WL.op (by decide) (R.move rfl) ?_
  refine WL.op (by decide) (R.lenSlice rfl Tryd.underlying48 rfl) ?_
  refine WL.gtrS (by decide) rfl rfl (fun h1 => ?_) (fun h1 => ?_)
  · skip
    refine WL.next ?_
    refine CW.condT rfl ?_
    refine CW.rseq ?_
    refine WL.op (by decide) (R.assign rfl) ?_
    refine WL.next ?_
    refine CW.ret ?_
    refine EW.thenRet ?_
    exact EW.ret1 (.inl rfl) rfl rfl ⟨congrArg (fun b => Ending.returned (.bool b)) (light_long (by omega)).symm, hC⟩
  · skip
    refine WL.next ?_
    refine CW.condF rfl ?_
    refine CW.skip ?_
    refine EW.next ?_
    refine CW.seq ?_
    refine CW.rseq ?_
    refine WL.op (by decide) (R.move rfl) ?_
    refine WL.op (by decide) (R.lenSlice rfl Tryd.underlying48 rfl) ?_
    refine WL.op (by decide) (R.move rfl) ?_
    refine WL.next ?_
    refine CW.block ?_
    refine CW.loopK [8, 9, 10] (fun k le wr => Chg (fun _ => False) w0 wr ∧ ∃ (j : Nat) (jj : Int), j + k = l.length ∧ jj = (j : Int) ∧ le = [(8, .slice A m c), (9, .int .i64 m), (10, .int .i64 jj)] ∧ (l.take j).all fatS = true) (l.length) ?_ ?_
    · exact ⟨Chg.refl _ _, 0, 0, by omega, rfl, rfl, rfl⟩
    · rintro k le wr ⟨hC, j, jj, hk, rfl, rfl, htk⟩
      have hz_hC := hC.size
      refine CW.rseq ?_
      refine WL.lssS (by decide) rfl rfl (fun h2 => ?_) (fun h2 => ?_)
      · skip
        refine WL.next ?_
        refine CW.seq ?_
        refine CW.condT rfl ?_
        refine CW.skip ?_
        refine EW.next ?_
        refine CW.seq ?_
        refine CW.block ?_
        refine CW.rseq ?_
        obtain ⟨s, hs⟩ : ∃ s, l[j]? = some s := ⟨l[j]'(by omega), List.getElem?_eq_getElem _⟩
        obtain ⟨hlm2, g, o, hA, hcell⟩ := (hL.kept hC).at hs
        subst hA
        have hs16 := (hO s (List.mem_of_getElem? hs)).a
        have hsd := (hO s (List.mem_of_getElem? hs)).d
        refine WL.op (by decide) (R.indexAddr1 (i := j) Tryd.underlying48 sz50 rfl rfl (by omega) (by omega)) ?_
        refine WL.op (by decide) (R.loadSdAt hs16 rfl hcell) ?_
        refine WL.eff rfl (OP.allocSd (by decide) ?_)
        intro w1 hc_w1 hs_w1 hB4
        obtain ⟨b4, he_b4⟩ : ∃ b, b = wr.heap.size := ⟨_, rfl⟩
        rw [← he_b4] at hB4 ⊢
        have hC := hC.trans hc_w1
        have hz_w1 := hc_w1.size
        refine WL.eff rfl (OP.storeSd (by assumption) (by first | rfl | assumption) rfl rfl hB4 ?_)
        intro w2 hc_w2 hs_w2 hB4
        have hC := hC.thenB hc_w2 (by omega)
        refine WL.next ?_
        refine CW.rseq ?_
        refine WL.op (by decide) (FA50_4 rfl) ?_
        refine WL.op (by decide) (R.load Tryd.underlying9 rfl rfl (cell_at hB4 (SeedV.at19 (by assumption)))) ?_
        refine WL.op (by decide) (R.lenS rfl rfl) ?_
        refine WL.gtrS (by decide) rfl rfl (fun h3 => ?_) (fun h3 => ?_)
        · skip
          refine WL.next ?_
          refine CW.condT rfl ?_
          refine CW.rseq ?_
          refine WL.op (by decide) (R.assign rfl) ?_
          refine WL.next ?_
          refine CW.ret ?_
          refine EW.inRet ?_
          refine EW.thenRet ?_
          refine EW.thenRet ?_
          refine EW.inRet ?_
          refine EW.thenRet ?_
          exact EW.ret1 (.inl rfl) rfl rfl ⟨congrArg (fun b => Ending.returned (.bool b)) (light_fat hs (by omega)).symm, hC⟩
        · skip
          refine WL.next ?_
          refine CW.condF rfl ?_
          refine CW.skip ?_
          refine EW.inNormal ?_
          refine EW.next ?_
          refine CW.region ?_
          refine WL.op (by decide) (R.add rfl rfl (by omega)) ?_
          refine WL.op (by decide) (R.move rfl) ?_
          refine WL.nil ?_
          exact EW.roundK [8, 9, 10] (k - 1) (by omega) ⟨hC, j + 1, _, by omega, by omega, rfl, fat_take hs (by omega) htk⟩
      · skip
        refine WL.next ?_
        refine CW.seq ?_
        refine CW.condF rfl ?_
        refine CW.exit ?_
        refine EW.thenExit ?_
        refine EW.thenExit ?_
        refine EW.inHere ?_
        refine EW.next ?_
        refine CW.rseq ?_
        refine WL.op (by decide) (R.assign rfl) ?_
        refine WL.next ?_
        refine CW.ret ?_
        exact EW.ret1 (.inl rfl) rfl rfl ⟨congrArg (fun b => Ending.returned (.bool b)) (light_yes (by omega) (by rwa [List.take_of_length_le (by omega)] at htk)).symm, hC⟩
end Go.Proofs.YthcpjcgjmdfpjaaDoor

namespace Go.Proofs.YthcpjcgjmdfpjaaDoor
open Go Go.RowKit
set_option maxRecDepth 100000
set_option maxHeartbeats 4000000

section
variable {l : Env} {n d : Nat} {w : World} {Q : Exit → Act → World → Prop} {M : Env → World → Prop} {t ty : TypeId} {pos : String} {af : Array Edge} {x y : Operand} {b o : Nat} {r : Rec}
abbrev BR (w : World) (b : Nat) (r : Rec) : Prop := w.heap[b]? = some (.cells r.cells.toArray 57 (0, 0))
theorem Rec.set1 (r : Rec) (x : Int) : r.cells.toArray.setIfInBounds 1 (.int .i64 x) = ({ r with type := x } : Rec).cells.toArray := by simp [Rec.cells]
theorem OP.storeRType {v : Int} (hx : ev l x = some (.pointer (some ⟨b, 1, none⟩))) (hy : ev l y = some (.int .i64 v)) (hb : BR w b r)
    (h : ∀ w', Chg (fun k => k = b) w w' → w'.heap.size = w.heap.size → BR w' b { r with type := v } → M l w') :
    OP Tryd.prog Q ⟨none, .store 3 x y, ty, pos, af, none⟩ n l w M :=
  OP.store1 sz3 hx hy rfl rfl hb (by simp [Rec.cells]) rfl (fun w' h1 h2 h3 => h w' h1 h2 (by rw [Rec.set1] at h3; exact h3))
theorem OP.storeRText {v : List UInt8} (h16 : r.addr.length = 16) (hx : ev l x = some (.pointer (some ⟨b, 19, none⟩))) (hy : ev l y = some (sv v)) (hb : BR w b r)
    (h : ∀ w', Chg (fun k => k = b) w w' → w'.heap.size = w.heap.size → BR w' b { r with text := v } → M l w') :
    OP Tryd.prog Q ⟨none, .store 9 x y, ty, pos, af, none⟩ n l w M :=
  OP.store1 sz9 hx hy rfl rfl hb (by rw [List.size_toArray, Rec.length h16]; decide) rfl (fun w' h1 h2 h3 => h w' h1 h2 (by rw [Rec.set19 h16] at h3; exact h3))
theorem OP.storeRData {v : List UInt8} (h16 : r.addr.length = 16) (hx : ev l x = some (.pointer (some ⟨b, 20, none⟩))) (hy : ev l y = some (sv v)) (hb : BR w b r)
    (h : ∀ w', Chg (fun k => k = b) w w' → w'.heap.size = w.heap.size → BR w' b { r with data := v } → M l w') :
    OP Tryd.prog Q ⟨none, .store 9 x y, ty, pos, af, none⟩ n l w M :=
  OP.store1 sz9 hx hy rfl rfl hb (by rw [List.size_toArray, Rec.length h16]; decide) rfl (fun w' h1 h2 h3 => h w' h1 h2 (by rw [Rec.set20 h16] at h3; exact h3))
theorem OP.storeRAddr {a : List UInt8} (h16 : r.addr.length = 16) (ha : a.length = 16) (hx : ev l x = some (.pointer (some ⟨b, 3, none⟩))) (hy : ev l y = some (.agg (a.map u8v).toArray)) (hb : BR w b r)
    (h : ∀ w', Chg (fun k => k = b) w w' → w'.heap.size = w.heap.size → BR w' b { r with addr := a } → M l w') :
    OP Tryd.prog Q ⟨none, .store 27 x y, ty, pos, af, none⟩ n l w M :=
  OP.storeAt sz27 (by rw [List.size_toArray, List.length_map, ha]) hx hy (u8_all a) hb (by rw [List.size_toArray, Rec.length h16]; decide) (fun w' h1 h2 h3 => h w' h1 h2 (by
    have e := Rec.setAddr h16 ha
    rw [e] at h3; exact h3))
/-- 's[:n]' of a string. -/
theorem R.sliceHiN {s : List UInt8} {hi : Nat} {k : IntKind} (hx : ev l x = some (sv s)) (hy : ev l y = some (.int k (hi : Int))) (h2 : hi ≤ s.length) : Runs Tryd.prog l (.slice 9 x none (some y) none) w (sv (s.take hi)) w := fun r _ _ _ _ _ he => by
  unfold sv at hx
  have hb1 : (Instr.sliceBound (.int k (hi : Int)) s.length .sliceAlen).run Tryd.prog w = .ok hi w := by
    have := run_sliceBound (P := Tryd.prog) (w := w) k (hi : Int) s.length .sliceAlen (by omega) (by omega)
    simpa using this
  have hbs : (Instr.sliceBounds false s.length s.length none (some (.int k (hi : Int))) none).run Tryd.prog w = .ok (0, hi, s.length) w := by
    simp [Instr.sliceBounds, hb1]
  have hsl : (Instr.slice 9 (.string ⟨s.toArray⟩) none (some (.int k (hi : Int))) none).run Tryd.prog w = .ok (.string ((⟨s.toArray⟩ : ByteArray).extract 0 hi)) w := by
    simp only [Instr.slice, Sem.run_bind, run_underlying Tryd.underlying9, Result.andThen_ok, Option.isSome_none, Bool.false_eq_true, if_false, sv_size, hbs, Sem.run_pure]
  have hext : (⟨s.toArray⟩ : ByteArray).extract 0 hi = ⟨(s.take hi).toArray⟩ := by
    apply ByteArray.ext
    simp only [ByteArray.data_extract]
    apply Array.ext'
    simp [List.extract]
  rw [hext] at hsl
  have hat : (Instr.sliceAt 9 (.string ⟨s.toArray⟩) none (some (.int k (hi : Int))) none).run Tryd.prog w = .ok (sv (s.take hi)) w := by
    have := run_sliceAt_string (P := Tryd.prog) (w := w) 9 (.string ⟨s.toArray⟩) none (some (.int k (hi : Int))) none Tryd.underlying9
    exact this.trans hsl
  simp only [execOp, he x _ hx, Option.map_some, Option.map_none, he y _ hy, Sem.run_bind, hat, Result.andThen_ok]
  rfl
theorem R.sliceHi {s : List UInt8} {k : IntKind} (hx : ev l x = some (sv s)) (hy : ev l y = some (.int k (if (255 : Int) < (s.length : Int) then 255 else (s.length : Int)))) : Runs Tryd.prog l (.slice 9 x none (some y) none) w (sv (s.take 255)) w := by
  obtain ⟨hi, hhi⟩ : ∃ hi : Nat, (if (255 : Int) < (s.length : Int) then 255 else (s.length : Int)) = (hi : Int) := by
    by_cases h : (255 : Int) < (s.length : Int)
    · exact ⟨255, by rw [if_pos h]; rfl⟩
    · exact ⟨s.length, by rw [if_neg h]⟩
  have hle : hi ≤ s.length ∧ s.take hi = s.take 255 := by
    by_cases h : (255 : Int) < (s.length : Int)
    · rw [if_pos h] at hhi
      have : hi = 255 := by omega
      subst this; exact ⟨by omega, rfl⟩
    · rw [if_neg h] at hhi
      have : hi = s.length := by omega
      subst this; exact ⟨Nat.le_refl _, by rw [List.take_of_length_le (Nat.le_refl _), List.take_of_length_le (by omega)]⟩
  rw [hhi] at hy
  rw [← hle.2]
  exact R.sliceHiN hx hy hle.1
end
theorem build57_02 (s : List UInt8) (ttl : Int) (w : World) : (Instr.build 57 #[(0, sv s), (2, .int .i64 ttl)]).run Tryd.prog w = .ok (Rec.val ⟨s, 0, ttl, zero16, [], []⟩) w := by unfold sv; kernel_rfl
theorem slice6 (c0 c1 c2 c3 : UInt8) (w : World) : (Instr.buildSlice 36 6 #[(0, u8v 255), (1, u8v 255), (2, u8v c0), (3, u8v c1), (4, u8v c2), (5, u8v c3)]).run Tryd.prog w = .ok (.slice (some ⟨w.heap.size, 0, none⟩) 6 6) (w.alloc (.cells #[u8v 255, u8v 255, u8v c0, u8v c1, u8v c2, u8v c3] 5)) := by kernel_rfl
theorem cells_one6 {w : World} {b : Nat} {c0 c1 c2 c3 : UInt8} (hb : w.heap[b]? = some (.cells #[u8v 255, u8v 255, u8v c0, u8v c1, u8v c2, u8v c3] 5 (0, 0))) : ∀ j u, (([255, 255, c0, c1, c2, c3] : List UInt8).map u8v)[j]? = some u → w.cell? ((⟨b, 0, none⟩ : Addr).add j) = some u := by
  intro j u hj
  rw [Addr.add_none, Nat.zero_add]
  refine cell_at hb ?_
  have : (#[u8v 255, u8v 255, u8v c0, u8v c1, u8v c2, u8v c3] : Array Value) = (([255, 255, c0, c1, c2, c3] : List UInt8).map u8v).toArray := rfl
  rw [this, List.getElem?_toArray]; exact hj
theorem four_of {a : List UInt8} (h : a.length = 16) : ∃ c0 c1 c2 c3, a.take 4 = [c0, c1, c2, c3] ∧ (a.map u8v)[0]? = some (u8v c0) ∧ (a.map u8v)[1]? = some (u8v c1) ∧ (a.map u8v)[2]? = some (u8v c2) ∧ (a.map u8v)[3]? = some (u8v c3) := by
  obtain ⟨a0, a1, a2, a3, a4, a5, a6, a7, a8, a9, b0, b1, b2, b3, b4, b5, rfl⟩ := list16 h
  exact ⟨a0, a1, a2, a3, rfl, rfl, rfl, rfl, rfl⟩
theorem rec_a {s : SeedV} (h : s.kind % 8 = 0 ∨ s.kind % 8 = 1) : recS s = ⟨nameN s.name, 1, s.ttl % 65536, mappedL ++ s.addr.take 4, [], []⟩ := if_pos h
theorem rec_b {s : SeedV} (h : s.kind % 8 = 2 ∨ s.kind % 8 = 3) : recS s = ⟨nameN s.name, 28, s.ttl % 65536, s.addr, [], []⟩ := by
  unfold recS kindS; rw [if_neg (by omega), if_pos h]
theorem rec_c {s : SeedV} (h : s.kind % 8 = 4) : recS s = ⟨nameN s.name, 5, s.ttl % 65536, zero16, nameN (s.name / 2 ^ (3 : Int).toNat), []⟩ := by
  unfold recS kindS; rw [if_neg (by omega), if_neg (by omega), if_pos h]
theorem rec_d {s : SeedV} (h : s.kind % 8 = 5) : recS s = ⟨nameN s.name, 12, s.ttl % 65536, zero16, nameN (s.name / 2 ^ (3 : Int).toNat), []⟩ := by
  unfold recS kindS; rw [if_neg (by omega), if_neg (by omega), if_neg (by omega), if_pos h]
theorem rec_e {s : SeedV} (h : s.kind % 8 = 6) : recS s = ⟨nameN s.name, 6, s.ttl % 65536, zero16, [], s.data.take 255⟩ := by
  unfold recS kindS; rw [if_neg (by omega), if_neg (by omega), if_neg (by omega), if_neg (by omega), if_pos h]
theorem rec_f {s : SeedV} (h : ¬ (s.kind % 8 = 0 ∨ s.kind % 8 = 1 ∨ s.kind % 8 = 2)) (h2 : ¬ (s.kind % 8 = 3 ∨ s.kind % 8 = 4 ∨ s.kind % 8 = 5 ∨ s.kind % 8 = 6)) : recS s = ⟨nameN s.name, 16, s.ttl % 65536, zero16, [], s.data.take 255⟩ := by
  unfold recS kindS; rw [if_neg (by omega), if_neg (by omega), if_neg (by omega), if_neg (by omega), if_neg (by omega)]
theorem record_any (s : SeedV) (w0 : World) (hO : s.Ok) : Calls Tryd.prog 48 #[.agg s.cells.toArray] w0 fun e w' => e = .returned (recS s).val ∧ Chg (fun _ => False) w0 w' := by
  have hs16 := hO.a
  have hz16 : zero16.length = 16 := rfl
  have hC := Chg.refl (fun _ => False) w0
  obtain ⟨c0, c1, c2, c3, e4, e0, e1, e2, e3⟩ := four_of hs16
  refine calls_cw (args := [.agg s.cells.toArray]) Tryd.func48 rfl rfl ?_
  show CW _ _ _ 78 [(0, .agg s.cells.toArray)] w0
  refine CW.rseq ?_
  refine WL.eff rfl (OP.box (by decide) rfl ?_)
  intro w1 hc_w1 hs_w1 hB1
  obtain ⟨b1, he_b1⟩ : ∃ b, b = w0.heap.size := ⟨_, rfl⟩
  rw [← he_b1] at hB1 ⊢
  have hB1 : BSd w1 b1 _ := hB1
  have hC := hC.trans hc_w1
  have hz_w1 := hc_w1.size
  refine WL.eff rfl (OP.allocR (by decide) ?_)
  intro w2 hc_w2 hs_w2 hB2
  obtain ⟨b2, he_b2⟩ : ∃ b, b = w1.heap.size := ⟨_, rfl⟩
  rw [← he_b2] at hB2 ⊢
  have hB1 := hc_w2.at hB1 (fun e => e)
  have hC := hC.trans hc_w2
  have hz_w2 := hc_w2.size
  refine WL.next ?_
  refine CW.seq ?_
  have hB1_d := hB1
  have hB2_d := hB2
  refine CW.draw (fun w => w.heap[b1]? = w2.heap[b1]? ∧ w.heap[b2]? = w2.heap[b2]?) (by kernel_rfl) ?_
  have hc_w3 : Chg (fun _ => False) w2 w2.drew := Chg.drew _ _
  obtain ⟨w3, he_w3⟩ : ∃ w, w = w2.drew := ⟨_, rfl⟩
  rw [← he_w3] at hc_w3 ⊢
  have hB1 := hc_w3.at hB1 (fun e => e)
  have hB2 := hc_w3.at hB2 (fun e => e)
  have hC := hC.trans hc_w3
  have hz_w3 := hc_w3.size
  refine AH.take 0 rfl (by kernel_rfl) (by kernel_rfl) (by kernel_rfl) (fun _ _ _ _ h => h) (⟨hB1.trans hB1_d.symm, hB2.trans hB2_d.symm⟩) (by decide) (fun w hS => FA50_0 rfl) ?_
  refine AH.take 1 rfl (by kernel_rfl) (by kernel_rfl) (by kernel_rfl) (fun _ _ _ _ h => h) (⟨hB1.trans hB1_d.symm, hB2.trans hB2_d.symm⟩) (by decide) (fun w hS => R.load Tryd.underlying3 rfl rfl (cell_at (hS.1.trans hB1_d) rfl)) ?_
  refine AH.take 3 rfl (by kernel_rfl) (by kernel_rfl) (by kernel_rfl) (fun _ _ _ _ h => h) (⟨hB1.trans hB1_d.symm, hB2.trans hB2_d.symm⟩) (by decide) (fun w hS => FA50_2 rfl) ?_
  refine AH.take 4 rfl (by kernel_rfl) (by kernel_rfl) (by kernel_rfl) (fun _ _ _ _ h => h) (⟨hB1.trans hB1_d.symm, hB2.trans hB2_d.symm⟩) (by decide) (fun w hS => R.load Tryd.underlying3 rfl rfl (cell_at (hS.1.trans hB1_d) rfl)) ?_
  refine AH.take 5 rfl (by kernel_rfl) (by kernel_rfl) (by kernel_rfl) (fun _ _ _ _ h => h) (⟨hB1.trans hB1_d.symm, hB2.trans hB2_d.symm⟩) (by decide) (fun w hS => R.mask 16 rfl rfl (by decide) rfl rfl) ?_
  refine AH.either 2 7 (by kernel_rfl) rfl rfl rfl rfl ?_ ?_
  · skip
    refine (OP.call (by decide) Tryd.func33 (by kernel_rfl) (by kernel_rfl) rfl (name_any _ _) ?_)
    rintro ed w4 ⟨rfl, hc_w4⟩
    refine ⟨_, rfl, ?_⟩
    have hB1 := hc_w4.at hB1 (fun e => e)
    have hB2 := hc_w4.at hB2 (fun e => e)
    have hC := hC.trans hc_w4
    have hz_w4 := hc_w4.size
    refine ⟨⟨hB1.trans hB1_d.symm, hB2.trans hB2_d.symm⟩, ?_⟩
    refine AH.take 6 rfl (by kernel_rfl) (by kernel_rfl) (by kernel_rfl) (fun _ _ _ _ h => h) (⟨hB1.trans hB1_d.symm, hB2.trans hB2_d.symm⟩) (by decide) (fun w hS => R.build (parts := [(0, _), (2, _)]) (vals := [(0, _), (2, _)]) rfl (fun w => build57_02 _ _ w)) ?_
    refine AH.eff 7 (by kernel_rfl) rfl rfl (OP.allocR (by decide) ?_)
    intro w5 hc_w5 hs_w5 hB3
    obtain ⟨b3, he_b3⟩ : ∃ b, b = w4.heap.size := ⟨_, rfl⟩
    rw [← he_b3] at hB3 ⊢
    have hB1 := hc_w5.at hB1 (fun e => e)
    have hB2 := hc_w5.at hB2 (fun e => e)
    have hC := hC.trans hc_w5
    have hz_w5 := hc_w5.size
    refine ⟨⟨hB1.trans hB1_d.symm, hB2.trans hB2_d.symm⟩, ?_⟩
    refine AH.eff 8 (by kernel_rfl) rfl rfl (OP.storeR rfl rfl (by first | assumption | rfl) (by first | assumption | rfl) hB3 ?_)
    intro w6 hc_w6 hs_w6 hB3
    have hB1 := hc_w6.at hB1 (fun e => by omega)
    have hB2 := hc_w6.at hB2 (fun e => by omega)
    have hC := hC.thenB hc_w6 (by omega)
    refine ⟨⟨hB1.trans hB1_d.symm, hB2.trans hB2_d.symm⟩, ?_⟩
    refine AH.done (by kernel_rfl) ?_
    refine EW.next ?_
    refine CW.seq ?_
    refine CW.rseq ?_
    refine WL.op (by decide) (FA50_1 rfl) ?_
    refine WL.op (by decide) (R.load Tryd.underlying3 rfl rfl (cell_at hB1 rfl)) ?_
    refine WL.op (by decide) (R.mask 3 rfl rfl (by decide) rfl rfl) ?_
    refine WL.next ?_
    refine CW.block ?_
    refine CW.seq ?_
    refine CW.rseq ?_
    refine WL.eqlS (by decide) rfl rfl (fun h1 => ?_) (fun h1 => ?_)
    · skip
      refine WL.op (by decide) (R.assign rfl) ?_
      refine WL.next ?_
      refine CW.condT rfl ?_
      refine CW.skip ?_
      refine EW.next ?_
      refine CW.condT rfl ?_
      refine CW.rseq ?_
      refine WL.op (by decide) (FA57_1 rfl) ?_
      refine WL.eff rfl (OP.storeRType rfl rfl hB3 ?_)
      intro w7 hc_w7 hs_w7 hB3
      have hB1 := hc_w7.at hB1 (fun e => by omega)
      have hB2 := hc_w7.at hB2 (fun e => by omega)
      have hC := hC.thenB hc_w7 (by omega)
      refine WL.next ?_
      have hB1_d := hB1
      have hB2_d := hB2
      refine CW.draw (fun w => w.heap[b1]? = w7.heap[b1]? ∧ w.heap[b2]? = w7.heap[b2]?) (by kernel_rfl) ?_
      have hc_w8 : Chg (fun _ => False) w7 w7.drew := Chg.drew _ _
      obtain ⟨w8, he_w8⟩ : ∃ w, w = w7.drew := ⟨_, rfl⟩
      rw [← he_w8] at hc_w8 ⊢
      have hB1 := hc_w8.at hB1 (fun e => e)
      have hB2 := hc_w8.at hB2 (fun e => e)
      have hB3 := hc_w8.at hB3 (fun e => e)
      have hC := hC.trans hc_w8
      have hz_w8 := hc_w8.size
      refine AH.take 0 rfl (by kernel_rfl) (by kernel_rfl) (by kernel_rfl) (fun _ _ _ _ h => h) (⟨hB1.trans hB1_d.symm, hB2.trans hB2_d.symm⟩) (by decide) (fun w hS => FA57_3 rfl) ?_
      refine AH.take 1 rfl (by kernel_rfl) (by kernel_rfl) (by kernel_rfl) (fun _ _ _ _ h => h) (⟨hB1.trans hB1_d.symm, hB2.trans hB2_d.symm⟩) (by decide) (fun w hS => R.sliceArr (lo := some _) (hi := none) (hv := none) (lv := some (.int .i64 10)) (l1 := 10) (h1 := 16) Tryd.underlying27 sz5 rfl rfl rfl (by kernel_rfl) (by decide)) ?_
      refine AH.take 2 rfl (by kernel_rfl) (by kernel_rfl) (by kernel_rfl) (fun _ _ _ _ h => h) (⟨hB1.trans hB1_d.symm, hB2.trans hB2_d.symm⟩) (by decide) (fun w hS => FA50_3 rfl) ?_
      refine AH.take 3 rfl (by kernel_rfl) (by kernel_rfl) (by kernel_rfl) (fun _ _ _ _ h => h) (⟨hB1.trans hB1_d.symm, hB2.trans hB2_d.symm⟩) (by decide) (fun w hS => R.indexArr (i := 0) Tryd.underlying27 sz5 rfl rfl rfl (by decide)) ?_
      refine AH.take 4 rfl (by kernel_rfl) (by kernel_rfl) (by kernel_rfl) (fun _ _ _ _ h => h) (⟨hB1.trans hB1_d.symm, hB2.trans hB2_d.symm⟩) (by decide) (fun w hS => R.load Tryd.underlying5 rfl rfl (cell_at (hS.1.trans hB1_d) (SeedV.atAddr e0))) ?_
      refine AH.take 5 rfl (by kernel_rfl) (by kernel_rfl) (by kernel_rfl) (fun _ _ _ _ h => h) (⟨hB1.trans hB1_d.symm, hB2.trans hB2_d.symm⟩) (by decide) (fun w hS => FA50_3 rfl) ?_
      refine AH.take 6 rfl (by kernel_rfl) (by kernel_rfl) (by kernel_rfl) (fun _ _ _ _ h => h) (⟨hB1.trans hB1_d.symm, hB2.trans hB2_d.symm⟩) (by decide) (fun w hS => R.indexArr (i := 1) Tryd.underlying27 sz5 rfl rfl rfl (by decide)) ?_
      refine AH.take 7 rfl (by kernel_rfl) (by kernel_rfl) (by kernel_rfl) (fun _ _ _ _ h => h) (⟨hB1.trans hB1_d.symm, hB2.trans hB2_d.symm⟩) (by decide) (fun w hS => R.load Tryd.underlying5 rfl rfl (cell_at (hS.1.trans hB1_d) (SeedV.atAddr e1))) ?_
      refine AH.take 8 rfl (by kernel_rfl) (by kernel_rfl) (by kernel_rfl) (fun _ _ _ _ h => h) (⟨hB1.trans hB1_d.symm, hB2.trans hB2_d.symm⟩) (by decide) (fun w hS => FA50_3 rfl) ?_
      refine AH.take 9 rfl (by kernel_rfl) (by kernel_rfl) (by kernel_rfl) (fun _ _ _ _ h => h) (⟨hB1.trans hB1_d.symm, hB2.trans hB2_d.symm⟩) (by decide) (fun w hS => R.indexArr (i := 2) Tryd.underlying27 sz5 rfl rfl rfl (by decide)) ?_
      refine AH.take 10 rfl (by kernel_rfl) (by kernel_rfl) (by kernel_rfl) (fun _ _ _ _ h => h) (⟨hB1.trans hB1_d.symm, hB2.trans hB2_d.symm⟩) (by decide) (fun w hS => R.load Tryd.underlying5 rfl rfl (cell_at (hS.1.trans hB1_d) (SeedV.atAddr e2))) ?_
      refine AH.take 11 rfl (by kernel_rfl) (by kernel_rfl) (by kernel_rfl) (fun _ _ _ _ h => h) (⟨hB1.trans hB1_d.symm, hB2.trans hB2_d.symm⟩) (by decide) (fun w hS => FA50_3 rfl) ?_
      refine AH.take 12 rfl (by kernel_rfl) (by kernel_rfl) (by kernel_rfl) (fun _ _ _ _ h => h) (⟨hB1.trans hB1_d.symm, hB2.trans hB2_d.symm⟩) (by decide) (fun w hS => R.indexArr (i := 3) Tryd.underlying27 sz5 rfl rfl rfl (by decide)) ?_
      refine AH.take 13 rfl (by kernel_rfl) (by kernel_rfl) (by kernel_rfl) (fun _ _ _ _ h => h) (⟨hB1.trans hB1_d.symm, hB2.trans hB2_d.symm⟩) (by decide) (fun w hS => R.load Tryd.underlying5 rfl rfl (cell_at (hS.1.trans hB1_d) (SeedV.atAddr e3))) ?_
      refine AH.eff 14 (by kernel_rfl) rfl rfl (OP.buildSlice (parts := [(0, _), (1, _), (2, _), (3, _), (4, _), (5, _)]) (vals := [(0, u8v 255), (1, u8v 255), (2, _), (3, _), (4, _), (5, _)]) (cells := #[u8v 255, u8v 255, u8v c0, u8v c1, u8v c2, u8v c3]) (ty := 5) (by decide) rfl (fun w => slice6 c0 c1 c2 c3 w) ?_)
      intro w9 hc_w9 hs_w9 hN
      have hB1 := hc_w9.at hB1 (fun e => e)
      have hB2 := hc_w9.at hB2 (fun e => e)
      have hB3 := hc_w9.at hB3 (fun e => e)
      have hC := hC.trans hc_w9
      have hz_w9 := hc_w9.size
      refine ⟨⟨hB1.trans hB1_d.symm, hB2.trans hB2_d.symm⟩, ?_⟩
      refine AH.eff 15 (by kernel_rfl) rfl rfl (OP.copy (cs := [255, 255, c0, c1, c2, c3]) (by decide) rfl rfl hB3 rfl (cells_one6 hN) (by rw [List.size_toArray, Rec.length (by rfl)]; exact Nat.le_of_ble_eq_true rfl) ?_)
      intro w10 hc_w10 hs_w10 hB3
      have hB1 := hc_w10.at hB1 (fun e => by omega)
      have hB2 := hc_w10.at hB2 (fun e => by omega)
      have hC := hC.thenB hc_w10 (by omega)
      have hB3 : w10.heap[b3]? = some (.cells (Rec.cells ⟨nameN s.name, 1, s.ttl % 65536, mappedL ++ [c0, c1, c2, c3], [], []⟩).toArray 57 (0, 0)) := hB3
      refine ⟨⟨hB1.trans hB1_d.symm, hB2.trans hB2_d.symm⟩, ?_⟩
      refine AH.done (by kernel_rfl) ?_
      refine EW.inNormal ?_
      refine EW.next ?_
      refine CW.rseq ?_
      refine WL.op (by decide) (R.loadRB (by first | assumption | rfl) rfl hB3) ?_
      refine WL.eff rfl (OP.storeR rfl rfl (by first | assumption | rfl) (by first | assumption | rfl) hB2 ?_)
      intro w11 hc_w11 hs_w11 hB2
      have hB1 := hc_w11.at hB1 (fun e => by omega)
      have hB3 := hc_w11.at hB3 (fun e => by omega)
      have hC := hC.thenB hc_w11 (by omega)
      refine WL.next ?_
      refine CW.ret ?_
      have hR := rec_a (s := s) (by omega)
      rw [show mappedL ++ s.addr.take 4 = mappedL ++ [c0, c1, c2, c3] by rw [e4]] at hR
      exact EW.retC (.inl rfl) rfl rfl (cs := (recS s).cells) Tryd.underlying57 rfl (by rw [Rec.length (recS_addr hs16)]; exact sz57) (fun j u hj => cell_at hB2 (by rw [hR] at hj; rw [List.getElem?_toArray]; exact hj)) ⟨rfl, hC⟩
    · skip
      refine WL.op (by decide) (R.assign rfl) ?_
      refine WL.next ?_
      refine CW.condF rfl ?_
      refine CW.region ?_
      refine WL.eqlS (by decide) rfl rfl (fun h2 => ?_) (fun h2 => ?_)
      · skip
        refine WL.op (by decide) (R.assign rfl) ?_
        refine WL.nil ?_
        refine EW.next ?_
        refine CW.condT rfl ?_
        refine CW.rseq ?_
        refine WL.op (by decide) (FA57_1 rfl) ?_
        refine WL.eff rfl (OP.storeRType rfl rfl hB3 ?_)
        intro w12 hc_w12 hs_w12 hB3
        have hB1 := hc_w12.at hB1 (fun e => by omega)
        have hB2 := hc_w12.at hB2 (fun e => by omega)
        have hC := hC.thenB hc_w12 (by omega)
        refine WL.next ?_
        have hB1_d := hB1
        have hB2_d := hB2
        refine CW.draw (fun w => w.heap[b1]? = w12.heap[b1]? ∧ w.heap[b2]? = w12.heap[b2]?) (by kernel_rfl) ?_
        have hc_w13 : Chg (fun _ => False) w12 w12.drew := Chg.drew _ _
        obtain ⟨w13, he_w13⟩ : ∃ w, w = w12.drew := ⟨_, rfl⟩
        rw [← he_w13] at hc_w13 ⊢
        have hB1 := hc_w13.at hB1 (fun e => e)
        have hB2 := hc_w13.at hB2 (fun e => e)
        have hB3 := hc_w13.at hB3 (fun e => e)
        have hC := hC.trans hc_w13
        have hz_w13 := hc_w13.size
        refine AH.take 0 rfl (by kernel_rfl) (by kernel_rfl) (by kernel_rfl) (fun _ _ _ _ h => h) (⟨hB1.trans hB1_d.symm, hB2.trans hB2_d.symm⟩) (by decide) (fun w hS => FA57_3 rfl) ?_
        refine AH.take 1 rfl (by kernel_rfl) (by kernel_rfl) (by kernel_rfl) (fun _ _ _ _ h => h) (⟨hB1.trans hB1_d.symm, hB2.trans hB2_d.symm⟩) (by decide) (fun w hS => R.sliceArr (lo := some _) (hi := none) (hv := none) (lv := some (.int .i64 10)) (l1 := 10) (h1 := 16) Tryd.underlying27 sz5 rfl rfl rfl (by kernel_rfl) (by decide)) ?_
        refine AH.take 2 rfl (by kernel_rfl) (by kernel_rfl) (by kernel_rfl) (fun _ _ _ _ h => h) (⟨hB1.trans hB1_d.symm, hB2.trans hB2_d.symm⟩) (by decide) (fun w hS => FA50_3 rfl) ?_
        refine AH.take 3 rfl (by kernel_rfl) (by kernel_rfl) (by kernel_rfl) (fun _ _ _ _ h => h) (⟨hB1.trans hB1_d.symm, hB2.trans hB2_d.symm⟩) (by decide) (fun w hS => R.indexArr (i := 0) Tryd.underlying27 sz5 rfl rfl rfl (by decide)) ?_
        refine AH.take 4 rfl (by kernel_rfl) (by kernel_rfl) (by kernel_rfl) (fun _ _ _ _ h => h) (⟨hB1.trans hB1_d.symm, hB2.trans hB2_d.symm⟩) (by decide) (fun w hS => R.load Tryd.underlying5 rfl rfl (cell_at (hS.1.trans hB1_d) (SeedV.atAddr e0))) ?_
        refine AH.take 5 rfl (by kernel_rfl) (by kernel_rfl) (by kernel_rfl) (fun _ _ _ _ h => h) (⟨hB1.trans hB1_d.symm, hB2.trans hB2_d.symm⟩) (by decide) (fun w hS => FA50_3 rfl) ?_
        refine AH.take 6 rfl (by kernel_rfl) (by kernel_rfl) (by kernel_rfl) (fun _ _ _ _ h => h) (⟨hB1.trans hB1_d.symm, hB2.trans hB2_d.symm⟩) (by decide) (fun w hS => R.indexArr (i := 1) Tryd.underlying27 sz5 rfl rfl rfl (by decide)) ?_
        refine AH.take 7 rfl (by kernel_rfl) (by kernel_rfl) (by kernel_rfl) (fun _ _ _ _ h => h) (⟨hB1.trans hB1_d.symm, hB2.trans hB2_d.symm⟩) (by decide) (fun w hS => R.load Tryd.underlying5 rfl rfl (cell_at (hS.1.trans hB1_d) (SeedV.atAddr e1))) ?_
        refine AH.take 8 rfl (by kernel_rfl) (by kernel_rfl) (by kernel_rfl) (fun _ _ _ _ h => h) (⟨hB1.trans hB1_d.symm, hB2.trans hB2_d.symm⟩) (by decide) (fun w hS => FA50_3 rfl) ?_
        refine AH.take 9 rfl (by kernel_rfl) (by kernel_rfl) (by kernel_rfl) (fun _ _ _ _ h => h) (⟨hB1.trans hB1_d.symm, hB2.trans hB2_d.symm⟩) (by decide) (fun w hS => R.indexArr (i := 2) Tryd.underlying27 sz5 rfl rfl rfl (by decide)) ?_
        refine AH.take 10 rfl (by kernel_rfl) (by kernel_rfl) (by kernel_rfl) (fun _ _ _ _ h => h) (⟨hB1.trans hB1_d.symm, hB2.trans hB2_d.symm⟩) (by decide) (fun w hS => R.load Tryd.underlying5 rfl rfl (cell_at (hS.1.trans hB1_d) (SeedV.atAddr e2))) ?_
        refine AH.take 11 rfl (by kernel_rfl) (by kernel_rfl) (by kernel_rfl) (fun _ _ _ _ h => h) (⟨hB1.trans hB1_d.symm, hB2.trans hB2_d.symm⟩) (by decide) (fun w hS => FA50_3 rfl) ?_
        refine AH.take 12 rfl (by kernel_rfl) (by kernel_rfl) (by kernel_rfl) (fun _ _ _ _ h => h) (⟨hB1.trans hB1_d.symm, hB2.trans hB2_d.symm⟩) (by decide) (fun w hS => R.indexArr (i := 3) Tryd.underlying27 sz5 rfl rfl rfl (by decide)) ?_
        refine AH.take 13 rfl (by kernel_rfl) (by kernel_rfl) (by kernel_rfl) (fun _ _ _ _ h => h) (⟨hB1.trans hB1_d.symm, hB2.trans hB2_d.symm⟩) (by decide) (fun w hS => R.load Tryd.underlying5 rfl rfl (cell_at (hS.1.trans hB1_d) (SeedV.atAddr e3))) ?_
        refine AH.eff 14 (by kernel_rfl) rfl rfl (OP.buildSlice (parts := [(0, _), (1, _), (2, _), (3, _), (4, _), (5, _)]) (vals := [(0, u8v 255), (1, u8v 255), (2, _), (3, _), (4, _), (5, _)]) (cells := #[u8v 255, u8v 255, u8v c0, u8v c1, u8v c2, u8v c3]) (ty := 5) (by decide) rfl (fun w => slice6 c0 c1 c2 c3 w) ?_)
        intro w14 hc_w14 hs_w14 hN
        have hB1 := hc_w14.at hB1 (fun e => e)
        have hB2 := hc_w14.at hB2 (fun e => e)
        have hB3 := hc_w14.at hB3 (fun e => e)
        have hC := hC.trans hc_w14
        have hz_w14 := hc_w14.size
        refine ⟨⟨hB1.trans hB1_d.symm, hB2.trans hB2_d.symm⟩, ?_⟩
        refine AH.eff 15 (by kernel_rfl) rfl rfl (OP.copy (cs := [255, 255, c0, c1, c2, c3]) (by decide) rfl rfl hB3 rfl (cells_one6 hN) (by rw [List.size_toArray, Rec.length (by rfl)]; exact Nat.le_of_ble_eq_true rfl) ?_)
        intro w15 hc_w15 hs_w15 hB3
        have hB1 := hc_w15.at hB1 (fun e => by omega)
        have hB2 := hc_w15.at hB2 (fun e => by omega)
        have hC := hC.thenB hc_w15 (by omega)
        have hB3 : w15.heap[b3]? = some (.cells (Rec.cells ⟨nameN s.name, 1, s.ttl % 65536, mappedL ++ [c0, c1, c2, c3], [], []⟩).toArray 57 (0, 0)) := hB3
        refine ⟨⟨hB1.trans hB1_d.symm, hB2.trans hB2_d.symm⟩, ?_⟩
        refine AH.done (by kernel_rfl) ?_
        refine EW.inNormal ?_
        refine EW.next ?_
        refine CW.rseq ?_
        refine WL.op (by decide) (R.loadRB (by first | assumption | rfl) rfl hB3) ?_
        refine WL.eff rfl (OP.storeR rfl rfl (by first | assumption | rfl) (by first | assumption | rfl) hB2 ?_)
        intro w16 hc_w16 hs_w16 hB2
        have hB1 := hc_w16.at hB1 (fun e => by omega)
        have hB3 := hc_w16.at hB3 (fun e => by omega)
        have hC := hC.thenB hc_w16 (by omega)
        refine WL.next ?_
        refine CW.ret ?_
        have hR := rec_a (s := s) (by omega)
        rw [show mappedL ++ s.addr.take 4 = mappedL ++ [c0, c1, c2, c3] by rw [e4]] at hR
        exact EW.retC (.inl rfl) rfl rfl (cs := (recS s).cells) Tryd.underlying57 rfl (by rw [Rec.length (recS_addr hs16)]; exact sz57) (fun j u hj => cell_at hB2 (by rw [hR] at hj; rw [List.getElem?_toArray]; exact hj)) ⟨rfl, hC⟩
      · skip
        refine WL.op (by decide) (R.assign rfl) ?_
        refine WL.nil ?_
        refine EW.next ?_
        refine CW.condF rfl ?_
        refine CW.seq ?_
        refine CW.rseq ?_
        refine WL.eqlS (by decide) rfl rfl (fun h3 => ?_) (fun h3 => ?_)
        · skip
          refine WL.op (by decide) (R.assign rfl) ?_
          refine WL.next ?_
          refine CW.condT rfl ?_
          refine CW.skip ?_
          refine EW.next ?_
          refine CW.condT rfl ?_
          have hB1_d := hB1
          have hB2_d := hB2
          refine CW.draw (fun w => w.heap[b1]? = w6.heap[b1]? ∧ w.heap[b2]? = w6.heap[b2]?) (by kernel_rfl) ?_
          have hc_w17 : Chg (fun _ => False) w6 w6.drew := Chg.drew _ _
          obtain ⟨w17, he_w17⟩ : ∃ w, w = w6.drew := ⟨_, rfl⟩
          rw [← he_w17] at hc_w17 ⊢
          have hB1 := hc_w17.at hB1 (fun e => e)
          have hB2 := hc_w17.at hB2 (fun e => e)
          have hB3 := hc_w17.at hB3 (fun e => e)
          have hC := hC.trans hc_w17
          have hz_w17 := hc_w17.size
          refine AH.take 0 rfl (by kernel_rfl) (by kernel_rfl) (by kernel_rfl) (fun _ _ _ _ h => h) (⟨hB1.trans hB1_d.symm, hB2.trans hB2_d.symm⟩) (by decide) (fun w hS => FA50_3 rfl) ?_
          refine AH.take 1 rfl (by kernel_rfl) (by kernel_rfl) (by kernel_rfl) (fun _ _ _ _ h => h) (⟨hB1.trans hB1_d.symm, hB2.trans hB2_d.symm⟩) (by decide) (fun w hS => R.loadSdA (by assumption) rfl (hS.1.trans hB1_d)) ?_
          refine AH.take 2 rfl (by kernel_rfl) (by kernel_rfl) (by kernel_rfl) (fun _ _ _ _ h => h) (⟨hB1.trans hB1_d.symm, hB2.trans hB2_d.symm⟩) (by decide) (fun w hS => FA57_1 rfl) ?_
          refine AH.eff 3 (by kernel_rfl) rfl rfl (OP.storeRType rfl rfl hB3 ?_)
          intro w18 hc_w18 hs_w18 hB3
          have hB1 := hc_w18.at hB1 (fun e => by omega)
          have hB2 := hc_w18.at hB2 (fun e => by omega)
          have hC := hC.thenB hc_w18 (by omega)
          refine ⟨⟨hB1.trans hB1_d.symm, hB2.trans hB2_d.symm⟩, ?_⟩
          refine AH.take 4 rfl (by kernel_rfl) (by kernel_rfl) (by kernel_rfl) (fun _ _ _ _ h => h) (⟨hB1.trans hB1_d.symm, hB2.trans hB2_d.symm⟩) (by decide) (fun w hS => FA57_3 rfl) ?_
          refine AH.eff 5 (by kernel_rfl) rfl rfl (OP.storeRAddr (by first | assumption | rfl) (by first | assumption | rfl) rfl rfl hB3 ?_)
          intro w19 hc_w19 hs_w19 hB3
          have hB1 := hc_w19.at hB1 (fun e => by omega)
          have hB2 := hc_w19.at hB2 (fun e => by omega)
          have hC := hC.thenB hc_w19 (by omega)
          refine ⟨⟨hB1.trans hB1_d.symm, hB2.trans hB2_d.symm⟩, ?_⟩
          refine AH.done (by kernel_rfl) ?_
          refine EW.inNormal ?_
          refine EW.next ?_
          refine CW.rseq ?_
          refine WL.op (by decide) (R.loadRB (by first | assumption | rfl) rfl hB3) ?_
          refine WL.eff rfl (OP.storeR rfl rfl (by first | assumption | rfl) (by first | assumption | rfl) hB2 ?_)
          intro w20 hc_w20 hs_w20 hB2
          have hB1 := hc_w20.at hB1 (fun e => by omega)
          have hB3 := hc_w20.at hB3 (fun e => by omega)
          have hC := hC.thenB hc_w20 (by omega)
          refine WL.next ?_
          refine CW.ret ?_
          have hR := rec_b (s := s) (by omega)
          exact EW.retC (.inl rfl) rfl rfl (cs := (recS s).cells) Tryd.underlying57 rfl (by rw [Rec.length (recS_addr hs16)]; exact sz57) (fun j u hj => cell_at hB2 (by rw [hR] at hj; rw [List.getElem?_toArray]; exact hj)) ⟨rfl, hC⟩
        · skip
          refine WL.op (by decide) (R.assign rfl) ?_
          refine WL.next ?_
          refine CW.condF rfl ?_
          refine CW.region ?_
          refine WL.eqlS (by decide) rfl rfl (fun h4 => ?_) (fun h4 => ?_)
          · skip
            refine WL.op (by decide) (R.assign rfl) ?_
            refine WL.nil ?_
            refine EW.next ?_
            refine CW.condT rfl ?_
            have hB1_d := hB1
            have hB2_d := hB2
            refine CW.draw (fun w => w.heap[b1]? = w6.heap[b1]? ∧ w.heap[b2]? = w6.heap[b2]?) (by kernel_rfl) ?_
            have hc_w21 : Chg (fun _ => False) w6 w6.drew := Chg.drew _ _
            obtain ⟨w21, he_w21⟩ : ∃ w, w = w6.drew := ⟨_, rfl⟩
            rw [← he_w21] at hc_w21 ⊢
            have hB1 := hc_w21.at hB1 (fun e => e)
            have hB2 := hc_w21.at hB2 (fun e => e)
            have hB3 := hc_w21.at hB3 (fun e => e)
            have hC := hC.trans hc_w21
            have hz_w21 := hc_w21.size
            refine AH.take 0 rfl (by kernel_rfl) (by kernel_rfl) (by kernel_rfl) (fun _ _ _ _ h => h) (⟨hB1.trans hB1_d.symm, hB2.trans hB2_d.symm⟩) (by decide) (fun w hS => FA50_3 rfl) ?_
            refine AH.take 1 rfl (by kernel_rfl) (by kernel_rfl) (by kernel_rfl) (fun _ _ _ _ h => h) (⟨hB1.trans hB1_d.symm, hB2.trans hB2_d.symm⟩) (by decide) (fun w hS => R.loadSdA (by assumption) rfl (hS.1.trans hB1_d)) ?_
            refine AH.take 2 rfl (by kernel_rfl) (by kernel_rfl) (by kernel_rfl) (fun _ _ _ _ h => h) (⟨hB1.trans hB1_d.symm, hB2.trans hB2_d.symm⟩) (by decide) (fun w hS => FA57_1 rfl) ?_
            refine AH.eff 3 (by kernel_rfl) rfl rfl (OP.storeRType rfl rfl hB3 ?_)
            intro w22 hc_w22 hs_w22 hB3
            have hB1 := hc_w22.at hB1 (fun e => by omega)
            have hB2 := hc_w22.at hB2 (fun e => by omega)
            have hC := hC.thenB hc_w22 (by omega)
            refine ⟨⟨hB1.trans hB1_d.symm, hB2.trans hB2_d.symm⟩, ?_⟩
            refine AH.take 4 rfl (by kernel_rfl) (by kernel_rfl) (by kernel_rfl) (fun _ _ _ _ h => h) (⟨hB1.trans hB1_d.symm, hB2.trans hB2_d.symm⟩) (by decide) (fun w hS => FA57_3 rfl) ?_
            refine AH.eff 5 (by kernel_rfl) rfl rfl (OP.storeRAddr (by first | assumption | rfl) (by first | assumption | rfl) rfl rfl hB3 ?_)
            intro w23 hc_w23 hs_w23 hB3
            have hB1 := hc_w23.at hB1 (fun e => by omega)
            have hB2 := hc_w23.at hB2 (fun e => by omega)
            have hC := hC.thenB hc_w23 (by omega)
            refine ⟨⟨hB1.trans hB1_d.symm, hB2.trans hB2_d.symm⟩, ?_⟩
            refine AH.done (by kernel_rfl) ?_
            refine EW.inNormal ?_
            refine EW.next ?_
            refine CW.rseq ?_
            refine WL.op (by decide) (R.loadRB (by first | assumption | rfl) rfl hB3) ?_
            refine WL.eff rfl (OP.storeR rfl rfl (by first | assumption | rfl) (by first | assumption | rfl) hB2 ?_)
            intro w24 hc_w24 hs_w24 hB2
            have hB1 := hc_w24.at hB1 (fun e => by omega)
            have hB3 := hc_w24.at hB3 (fun e => by omega)
            have hC := hC.thenB hc_w24 (by omega)
            refine WL.next ?_
            refine CW.ret ?_
            have hR := rec_b (s := s) (by omega)
            exact EW.retC (.inl rfl) rfl rfl (cs := (recS s).cells) Tryd.underlying57 rfl (by rw [Rec.length (recS_addr hs16)]; exact sz57) (fun j u hj => cell_at hB2 (by rw [hR] at hj; rw [List.getElem?_toArray]; exact hj)) ⟨rfl, hC⟩
          · skip
            refine WL.op (by decide) (R.assign rfl) ?_
            refine WL.nil ?_
            refine EW.next ?_
            refine CW.condF rfl ?_
            refine CW.rseq ?_
            refine WL.eqlS (by decide) rfl rfl (fun h5 => ?_) (fun h5 => ?_)
            · skip
              refine WL.op (by decide) (R.assign rfl) ?_
              refine WL.next ?_
              refine CW.condT rfl ?_
              refine CW.region ?_
              refine WL.op (by decide) (FA50_0 rfl) ?_
              refine WL.op (by decide) (R.load Tryd.underlying3 rfl rfl (cell_at hB1 rfl)) ?_
              refine WL.op (by decide) (R.shr rfl rfl (by omega)) ?_
              refine WL.eff rfl (OP.call (by decide) Tryd.func33 (by kernel_rfl) (by kernel_rfl) rfl (name_any _ _) ?_)
              rintro ed w25 ⟨rfl, hc_w25⟩
              refine ⟨_, rfl, ?_⟩
              have hB1 := hc_w25.at hB1 (fun e => e)
              have hB2 := hc_w25.at hB2 (fun e => e)
              have hB3 := hc_w25.at hB3 (fun e => e)
              have hC := hC.trans hc_w25
              have hz_w25 := hc_w25.size
              refine WL.op (by decide) (FA57_1 rfl) ?_
              refine WL.eff rfl (OP.storeRType rfl rfl hB3 ?_)
              intro w26 hc_w26 hs_w26 hB3
              have hB1 := hc_w26.at hB1 (fun e => by omega)
              have hB2 := hc_w26.at hB2 (fun e => by omega)
              have hC := hC.thenB hc_w26 (by omega)
              refine WL.op (by decide) (FA57_4 rfl) ?_
              refine WL.eff rfl (OP.storeRText (by first | assumption | rfl) rfl rfl hB3 ?_)
              intro w27 hc_w27 hs_w27 hB3
              have hB1 := hc_w27.at hB1 (fun e => by omega)
              have hB2 := hc_w27.at hB2 (fun e => by omega)
              have hC := hC.thenB hc_w27 (by omega)
              refine WL.nil ?_
              refine EW.inNormal ?_
              refine EW.next ?_
              refine CW.rseq ?_
              refine WL.op (by decide) (R.loadRB (by first | assumption | rfl) rfl hB3) ?_
              refine WL.eff rfl (OP.storeR rfl rfl (by first | assumption | rfl) (by first | assumption | rfl) hB2 ?_)
              intro w28 hc_w28 hs_w28 hB2
              have hB1 := hc_w28.at hB1 (fun e => by omega)
              have hB3 := hc_w28.at hB3 (fun e => by omega)
              have hC := hC.thenB hc_w28 (by omega)
              refine WL.next ?_
              refine CW.ret ?_
              have hR := rec_c (s := s) (by omega)
              exact EW.retC (.inl rfl) rfl rfl (cs := (recS s).cells) Tryd.underlying57 rfl (by rw [Rec.length (recS_addr hs16)]; exact sz57) (fun j u hj => cell_at hB2 (by rw [hR] at hj; rw [List.getElem?_toArray]; exact hj)) ⟨rfl, hC⟩
            · skip
              refine WL.op (by decide) (R.assign rfl) ?_
              refine WL.next ?_
              refine CW.condF rfl ?_
              refine CW.rseq ?_
              refine WL.eqlS (by decide) rfl rfl (fun h6 => ?_) (fun h6 => ?_)
              · skip
                refine WL.op (by decide) (R.assign rfl) ?_
                refine WL.next ?_
                refine CW.condT rfl ?_
                refine CW.region ?_
                refine WL.op (by decide) (FA50_0 rfl) ?_
                refine WL.op (by decide) (R.load Tryd.underlying3 rfl rfl (cell_at hB1 rfl)) ?_
                refine WL.op (by decide) (R.shr rfl rfl (by omega)) ?_
                refine WL.eff rfl (OP.call (by decide) Tryd.func33 (by kernel_rfl) (by kernel_rfl) rfl (name_any _ _) ?_)
                rintro ed w29 ⟨rfl, hc_w29⟩
                refine ⟨_, rfl, ?_⟩
                have hB1 := hc_w29.at hB1 (fun e => e)
                have hB2 := hc_w29.at hB2 (fun e => e)
                have hB3 := hc_w29.at hB3 (fun e => e)
                have hC := hC.trans hc_w29
                have hz_w29 := hc_w29.size
                refine WL.op (by decide) (FA57_1 rfl) ?_
                refine WL.eff rfl (OP.storeRType rfl rfl hB3 ?_)
                intro w30 hc_w30 hs_w30 hB3
                have hB1 := hc_w30.at hB1 (fun e => by omega)
                have hB2 := hc_w30.at hB2 (fun e => by omega)
                have hC := hC.thenB hc_w30 (by omega)
                refine WL.op (by decide) (FA57_4 rfl) ?_
                refine WL.eff rfl (OP.storeRText (by first | assumption | rfl) rfl rfl hB3 ?_)
                intro w31 hc_w31 hs_w31 hB3
                have hB1 := hc_w31.at hB1 (fun e => by omega)
                have hB2 := hc_w31.at hB2 (fun e => by omega)
                have hC := hC.thenB hc_w31 (by omega)
                refine WL.nil ?_
                refine EW.inNormal ?_
                refine EW.next ?_
                refine CW.rseq ?_
                refine WL.op (by decide) (R.loadRB (by first | assumption | rfl) rfl hB3) ?_
                refine WL.eff rfl (OP.storeR rfl rfl (by first | assumption | rfl) (by first | assumption | rfl) hB2 ?_)
                intro w32 hc_w32 hs_w32 hB2
                have hB1 := hc_w32.at hB1 (fun e => by omega)
                have hB3 := hc_w32.at hB3 (fun e => by omega)
                have hC := hC.thenB hc_w32 (by omega)
                refine WL.next ?_
                refine CW.ret ?_
                have hR := rec_d (s := s) (by omega)
                exact EW.retC (.inl rfl) rfl rfl (cs := (recS s).cells) Tryd.underlying57 rfl (by rw [Rec.length (recS_addr hs16)]; exact sz57) (fun j u hj => cell_at hB2 (by rw [hR] at hj; rw [List.getElem?_toArray]; exact hj)) ⟨rfl, hC⟩
              · skip
                refine WL.op (by decide) (R.assign rfl) ?_
                refine WL.next ?_
                refine CW.condF rfl ?_
                refine CW.rseq ?_
                refine WL.eqlS (by decide) rfl rfl (fun h7 => ?_) (fun h7 => ?_)
                · skip
                  refine WL.op (by decide) (R.assign rfl) ?_
                  refine WL.next ?_
                  refine CW.condT rfl ?_
                  have hB1_d := hB1
                  have hB2_d := hB2
                  refine CW.draw (fun w => w.heap[b1]? = w6.heap[b1]? ∧ w.heap[b2]? = w6.heap[b2]?) (by kernel_rfl) ?_
                  have hc_w33 : Chg (fun _ => False) w6 w6.drew := Chg.drew _ _
                  obtain ⟨w33, he_w33⟩ : ∃ w, w = w6.drew := ⟨_, rfl⟩
                  rw [← he_w33] at hc_w33 ⊢
                  have hB1 := hc_w33.at hB1 (fun e => e)
                  have hB2 := hc_w33.at hB2 (fun e => e)
                  have hB3 := hc_w33.at hB3 (fun e => e)
                  have hC := hC.trans hc_w33
                  have hz_w33 := hc_w33.size
                  refine AH.take 0 rfl (by kernel_rfl) (by kernel_rfl) (by kernel_rfl) (fun _ _ _ _ h => h) (⟨hB1.trans hB1_d.symm, hB2.trans hB2_d.symm⟩) (by decide) (fun w hS => FA50_4 rfl) ?_
                  refine AH.take 1 rfl (by kernel_rfl) (by kernel_rfl) (by kernel_rfl) (fun _ _ _ _ h => h) (⟨hB1.trans hB1_d.symm, hB2.trans hB2_d.symm⟩) (by decide) (fun w hS => R.load Tryd.underlying9 rfl rfl (cell_at (hS.1.trans hB1_d) (SeedV.at19 (by assumption)))) ?_
                  refine AH.take 2 rfl (by kernel_rfl) (by kernel_rfl) (by kernel_rfl) (fun _ _ _ _ h => h) (⟨hB1.trans hB1_d.symm, hB2.trans hB2_d.symm⟩) (by decide) (fun w hS => FA50_4 rfl) ?_
                  refine AH.take 3 rfl (by kernel_rfl) (by kernel_rfl) (by kernel_rfl) (fun _ _ _ _ h => h) (⟨hB1.trans hB1_d.symm, hB2.trans hB2_d.symm⟩) (by decide) (fun w hS => R.load Tryd.underlying9 rfl rfl (cell_at (hS.1.trans hB1_d) (SeedV.at19 (by assumption)))) ?_
                  refine AH.take 4 rfl (by kernel_rfl) (by kernel_rfl) (by kernel_rfl) (fun _ _ _ _ h => h) (⟨hB1.trans hB1_d.symm, hB2.trans hB2_d.symm⟩) (by decide) (fun w hS => R.lenS rfl rfl) ?_
                  refine AH.take 5 rfl (by kernel_rfl) (by kernel_rfl) (by kernel_rfl) (fun _ _ _ _ h => h) (⟨hB1.trans hB1_d.symm, hB2.trans hB2_d.symm⟩) (by decide) (fun w hS => R.minC rfl rfl) ?_
                  refine AH.take 6 rfl (by kernel_rfl) (by kernel_rfl) (by kernel_rfl) (fun _ _ _ _ h => h) (⟨hB1.trans hB1_d.symm, hB2.trans hB2_d.symm⟩) (by decide) (fun w hS => R.sliceHi rfl rfl) ?_
                  refine AH.take 7 rfl (by kernel_rfl) (by kernel_rfl) (by kernel_rfl) (fun _ _ _ _ h => h) (⟨hB1.trans hB1_d.symm, hB2.trans hB2_d.symm⟩) (by decide) (fun w hS => FA57_1 rfl) ?_
                  refine AH.eff 8 (by kernel_rfl) rfl rfl (OP.storeRType rfl rfl hB3 ?_)
                  intro w34 hc_w34 hs_w34 hB3
                  have hB1 := hc_w34.at hB1 (fun e => by omega)
                  have hB2 := hc_w34.at hB2 (fun e => by omega)
                  have hC := hC.thenB hc_w34 (by omega)
                  refine ⟨⟨hB1.trans hB1_d.symm, hB2.trans hB2_d.symm⟩, ?_⟩
                  refine AH.take 9 rfl (by kernel_rfl) (by kernel_rfl) (by kernel_rfl) (fun _ _ _ _ h => h) (⟨hB1.trans hB1_d.symm, hB2.trans hB2_d.symm⟩) (by decide) (fun w hS => FA57_5 rfl) ?_
                  refine AH.eff 10 (by kernel_rfl) rfl rfl (OP.storeRData (by first | assumption | rfl) rfl rfl hB3 ?_)
                  intro w35 hc_w35 hs_w35 hB3
                  have hB1 := hc_w35.at hB1 (fun e => by omega)
                  have hB2 := hc_w35.at hB2 (fun e => by omega)
                  have hC := hC.thenB hc_w35 (by omega)
                  refine ⟨⟨hB1.trans hB1_d.symm, hB2.trans hB2_d.symm⟩, ?_⟩
                  refine AH.done (by kernel_rfl) ?_
                  refine EW.inNormal ?_
                  refine EW.next ?_
                  refine CW.rseq ?_
                  refine WL.op (by decide) (R.loadRB (by first | assumption | rfl) rfl hB3) ?_
                  refine WL.eff rfl (OP.storeR rfl rfl (by first | assumption | rfl) (by first | assumption | rfl) hB2 ?_)
                  intro w36 hc_w36 hs_w36 hB2
                  have hB1 := hc_w36.at hB1 (fun e => by omega)
                  have hB3 := hc_w36.at hB3 (fun e => by omega)
                  have hC := hC.thenB hc_w36 (by omega)
                  refine WL.next ?_
                  refine CW.ret ?_
                  have hR := rec_e (s := s) (by omega)
                  exact EW.retC (.inl rfl) rfl rfl (cs := (recS s).cells) Tryd.underlying57 rfl (by rw [Rec.length (recS_addr hs16)]; exact sz57) (fun j u hj => cell_at hB2 (by rw [hR] at hj; rw [List.getElem?_toArray]; exact hj)) ⟨rfl, hC⟩
                · skip
                  refine WL.op (by decide) (R.assign rfl) ?_
                  refine WL.next ?_
                  refine CW.condF rfl ?_
                  have hB1_d := hB1
                  have hB2_d := hB2
                  refine CW.draw (fun w => w.heap[b1]? = w6.heap[b1]? ∧ w.heap[b2]? = w6.heap[b2]?) (by kernel_rfl) ?_
                  have hc_w37 : Chg (fun _ => False) w6 w6.drew := Chg.drew _ _
                  obtain ⟨w37, he_w37⟩ : ∃ w, w = w6.drew := ⟨_, rfl⟩
                  rw [← he_w37] at hc_w37 ⊢
                  have hB1 := hc_w37.at hB1 (fun e => e)
                  have hB2 := hc_w37.at hB2 (fun e => e)
                  have hB3 := hc_w37.at hB3 (fun e => e)
                  have hC := hC.trans hc_w37
                  have hz_w37 := hc_w37.size
                  refine AH.take 0 rfl (by kernel_rfl) (by kernel_rfl) (by kernel_rfl) (fun _ _ _ _ h => h) (⟨hB1.trans hB1_d.symm, hB2.trans hB2_d.symm⟩) (by decide) (fun w hS => FA50_4 rfl) ?_
                  refine AH.take 1 rfl (by kernel_rfl) (by kernel_rfl) (by kernel_rfl) (fun _ _ _ _ h => h) (⟨hB1.trans hB1_d.symm, hB2.trans hB2_d.symm⟩) (by decide) (fun w hS => R.load Tryd.underlying9 rfl rfl (cell_at (hS.1.trans hB1_d) (SeedV.at19 (by assumption)))) ?_
                  refine AH.take 2 rfl (by kernel_rfl) (by kernel_rfl) (by kernel_rfl) (fun _ _ _ _ h => h) (⟨hB1.trans hB1_d.symm, hB2.trans hB2_d.symm⟩) (by decide) (fun w hS => FA50_4 rfl) ?_
                  refine AH.take 3 rfl (by kernel_rfl) (by kernel_rfl) (by kernel_rfl) (fun _ _ _ _ h => h) (⟨hB1.trans hB1_d.symm, hB2.trans hB2_d.symm⟩) (by decide) (fun w hS => R.load Tryd.underlying9 rfl rfl (cell_at (hS.1.trans hB1_d) (SeedV.at19 (by assumption)))) ?_
                  refine AH.take 4 rfl (by kernel_rfl) (by kernel_rfl) (by kernel_rfl) (fun _ _ _ _ h => h) (⟨hB1.trans hB1_d.symm, hB2.trans hB2_d.symm⟩) (by decide) (fun w hS => R.lenS rfl rfl) ?_
                  refine AH.take 5 rfl (by kernel_rfl) (by kernel_rfl) (by kernel_rfl) (fun _ _ _ _ h => h) (⟨hB1.trans hB1_d.symm, hB2.trans hB2_d.symm⟩) (by decide) (fun w hS => R.minC rfl rfl) ?_
                  refine AH.take 6 rfl (by kernel_rfl) (by kernel_rfl) (by kernel_rfl) (fun _ _ _ _ h => h) (⟨hB1.trans hB1_d.symm, hB2.trans hB2_d.symm⟩) (by decide) (fun w hS => R.sliceHi rfl rfl) ?_
                  refine AH.take 7 rfl (by kernel_rfl) (by kernel_rfl) (by kernel_rfl) (fun _ _ _ _ h => h) (⟨hB1.trans hB1_d.symm, hB2.trans hB2_d.symm⟩) (by decide) (fun w hS => FA57_1 rfl) ?_
                  refine AH.eff 8 (by kernel_rfl) rfl rfl (OP.storeRType rfl rfl hB3 ?_)
                  intro w38 hc_w38 hs_w38 hB3
                  have hB1 := hc_w38.at hB1 (fun e => by omega)
                  have hB2 := hc_w38.at hB2 (fun e => by omega)
                  have hC := hC.thenB hc_w38 (by omega)
                  refine ⟨⟨hB1.trans hB1_d.symm, hB2.trans hB2_d.symm⟩, ?_⟩
                  refine AH.take 9 rfl (by kernel_rfl) (by kernel_rfl) (by kernel_rfl) (fun _ _ _ _ h => h) (⟨hB1.trans hB1_d.symm, hB2.trans hB2_d.symm⟩) (by decide) (fun w hS => FA57_5 rfl) ?_
                  refine AH.eff 10 (by kernel_rfl) rfl rfl (OP.storeRData (by first | assumption | rfl) rfl rfl hB3 ?_)
                  intro w39 hc_w39 hs_w39 hB3
                  have hB1 := hc_w39.at hB1 (fun e => by omega)
                  have hB2 := hc_w39.at hB2 (fun e => by omega)
                  have hC := hC.thenB hc_w39 (by omega)
                  refine ⟨⟨hB1.trans hB1_d.symm, hB2.trans hB2_d.symm⟩, ?_⟩
                  refine AH.done (by kernel_rfl) ?_
                  refine EW.inNormal ?_
                  refine EW.next ?_
                  refine CW.rseq ?_
                  refine WL.op (by decide) (R.loadRB (by first | assumption | rfl) rfl hB3) ?_
                  refine WL.eff rfl (OP.storeR rfl rfl (by first | assumption | rfl) (by first | assumption | rfl) hB2 ?_)
                  intro w40 hc_w40 hs_w40 hB2
                  have hB1 := hc_w40.at hB1 (fun e => by omega)
                  have hB3 := hc_w40.at hB3 (fun e => by omega)
                  have hC := hC.thenB hc_w40 (by omega)
                  refine WL.next ?_
                  refine CW.ret ?_
                  have hR := rec_f (s := s) (by omega) (by omega)
                  exact EW.retC (.inl rfl) rfl rfl (cs := (recS s).cells) Tryd.underlying57 rfl (by rw [Rec.length (recS_addr hs16)]; exact sz57) (fun j u hj => cell_at hB2 (by rw [hR] at hj; rw [List.getElem?_toArray]; exact hj)) ⟨rfl, hC⟩
  · skip
    refine (OP.allocR (by decide) ?_)
    intro w41 hc_w41 hs_w41 hB3
    obtain ⟨b3, he_b3⟩ : ∃ b, b = w3.heap.size := ⟨_, rfl⟩
    rw [← he_b3] at hB3 ⊢
    have hB1 := hc_w41.at hB1 (fun e => e)
    have hB2 := hc_w41.at hB2 (fun e => e)
    have hC := hC.trans hc_w41
    have hz_w41 := hc_w41.size
    refine ⟨⟨hB1.trans hB1_d.symm, hB2.trans hB2_d.symm⟩, ?_⟩
    refine AH.eff 2 (by kernel_rfl) rfl rfl (OP.call (by decide) Tryd.func33 (by kernel_rfl) (by kernel_rfl) rfl (name_any _ _) ?_)
    rintro ed w42 ⟨rfl, hc_w42⟩
    refine ⟨_, rfl, ?_⟩
    have hB1 := hc_w42.at hB1 (fun e => e)
    have hB2 := hc_w42.at hB2 (fun e => e)
    have hB3 := hc_w42.at hB3 (fun e => e)
    have hC := hC.trans hc_w42
    have hz_w42 := hc_w42.size
    refine ⟨⟨hB1.trans hB1_d.symm, hB2.trans hB2_d.symm⟩, ?_⟩
    refine AH.take 6 rfl (by kernel_rfl) (by kernel_rfl) (by kernel_rfl) (fun _ _ _ _ h => h) (⟨hB1.trans hB1_d.symm, hB2.trans hB2_d.symm⟩) (by decide) (fun w hS => R.build (parts := [(0, _), (2, _)]) (vals := [(0, _), (2, _)]) rfl (fun w => build57_02 _ _ w)) ?_
    refine AH.eff 8 (by kernel_rfl) rfl rfl (OP.storeR rfl rfl (by first | assumption | rfl) (by first | assumption | rfl) hB3 ?_)
    intro w43 hc_w43 hs_w43 hB3
    have hB1 := hc_w43.at hB1 (fun e => by omega)
    have hB2 := hc_w43.at hB2 (fun e => by omega)
    have hC := hC.thenB hc_w43 (by omega)
    refine ⟨⟨hB1.trans hB1_d.symm, hB2.trans hB2_d.symm⟩, ?_⟩
    refine AH.done (by kernel_rfl) ?_
    refine EW.next ?_
    refine CW.seq ?_
    refine CW.rseq ?_
    refine WL.op (by decide) (FA50_1 rfl) ?_
    refine WL.op (by decide) (R.load Tryd.underlying3 rfl rfl (cell_at hB1 rfl)) ?_
    refine WL.op (by decide) (R.mask 3 rfl rfl (by decide) rfl rfl) ?_
    refine WL.next ?_
    refine CW.block ?_
    refine CW.seq ?_
    refine CW.rseq ?_
    refine WL.eqlS (by decide) rfl rfl (fun h8 => ?_) (fun h8 => ?_)
    · skip
      refine WL.op (by decide) (R.assign rfl) ?_
      refine WL.next ?_
      refine CW.condT rfl ?_
      refine CW.skip ?_
      refine EW.next ?_
      refine CW.condT rfl ?_
      refine CW.rseq ?_
      refine WL.op (by decide) (FA57_1 rfl) ?_
      refine WL.eff rfl (OP.storeRType rfl rfl hB3 ?_)
      intro w44 hc_w44 hs_w44 hB3
      have hB1 := hc_w44.at hB1 (fun e => by omega)
      have hB2 := hc_w44.at hB2 (fun e => by omega)
      have hC := hC.thenB hc_w44 (by omega)
      refine WL.next ?_
      have hB1_d := hB1
      have hB2_d := hB2
      refine CW.draw (fun w => w.heap[b1]? = w44.heap[b1]? ∧ w.heap[b2]? = w44.heap[b2]?) (by kernel_rfl) ?_
      have hc_w45 : Chg (fun _ => False) w44 w44.drew := Chg.drew _ _
      obtain ⟨w45, he_w45⟩ : ∃ w, w = w44.drew := ⟨_, rfl⟩
      rw [← he_w45] at hc_w45 ⊢
      have hB1 := hc_w45.at hB1 (fun e => e)
      have hB2 := hc_w45.at hB2 (fun e => e)
      have hB3 := hc_w45.at hB3 (fun e => e)
      have hC := hC.trans hc_w45
      have hz_w45 := hc_w45.size
      refine AH.take 0 rfl (by kernel_rfl) (by kernel_rfl) (by kernel_rfl) (fun _ _ _ _ h => h) (⟨hB1.trans hB1_d.symm, hB2.trans hB2_d.symm⟩) (by decide) (fun w hS => FA57_3 rfl) ?_
      refine AH.take 1 rfl (by kernel_rfl) (by kernel_rfl) (by kernel_rfl) (fun _ _ _ _ h => h) (⟨hB1.trans hB1_d.symm, hB2.trans hB2_d.symm⟩) (by decide) (fun w hS => R.sliceArr (lo := some _) (hi := none) (hv := none) (lv := some (.int .i64 10)) (l1 := 10) (h1 := 16) Tryd.underlying27 sz5 rfl rfl rfl (by kernel_rfl) (by decide)) ?_
      refine AH.take 2 rfl (by kernel_rfl) (by kernel_rfl) (by kernel_rfl) (fun _ _ _ _ h => h) (⟨hB1.trans hB1_d.symm, hB2.trans hB2_d.symm⟩) (by decide) (fun w hS => FA50_3 rfl) ?_
      refine AH.take 3 rfl (by kernel_rfl) (by kernel_rfl) (by kernel_rfl) (fun _ _ _ _ h => h) (⟨hB1.trans hB1_d.symm, hB2.trans hB2_d.symm⟩) (by decide) (fun w hS => R.indexArr (i := 0) Tryd.underlying27 sz5 rfl rfl rfl (by decide)) ?_
      refine AH.take 4 rfl (by kernel_rfl) (by kernel_rfl) (by kernel_rfl) (fun _ _ _ _ h => h) (⟨hB1.trans hB1_d.symm, hB2.trans hB2_d.symm⟩) (by decide) (fun w hS => R.load Tryd.underlying5 rfl rfl (cell_at (hS.1.trans hB1_d) (SeedV.atAddr e0))) ?_
      refine AH.take 5 rfl (by kernel_rfl) (by kernel_rfl) (by kernel_rfl) (fun _ _ _ _ h => h) (⟨hB1.trans hB1_d.symm, hB2.trans hB2_d.symm⟩) (by decide) (fun w hS => FA50_3 rfl) ?_
      refine AH.take 6 rfl (by kernel_rfl) (by kernel_rfl) (by kernel_rfl) (fun _ _ _ _ h => h) (⟨hB1.trans hB1_d.symm, hB2.trans hB2_d.symm⟩) (by decide) (fun w hS => R.indexArr (i := 1) Tryd.underlying27 sz5 rfl rfl rfl (by decide)) ?_
      refine AH.take 7 rfl (by kernel_rfl) (by kernel_rfl) (by kernel_rfl) (fun _ _ _ _ h => h) (⟨hB1.trans hB1_d.symm, hB2.trans hB2_d.symm⟩) (by decide) (fun w hS => R.load Tryd.underlying5 rfl rfl (cell_at (hS.1.trans hB1_d) (SeedV.atAddr e1))) ?_
      refine AH.take 8 rfl (by kernel_rfl) (by kernel_rfl) (by kernel_rfl) (fun _ _ _ _ h => h) (⟨hB1.trans hB1_d.symm, hB2.trans hB2_d.symm⟩) (by decide) (fun w hS => FA50_3 rfl) ?_
      refine AH.take 9 rfl (by kernel_rfl) (by kernel_rfl) (by kernel_rfl) (fun _ _ _ _ h => h) (⟨hB1.trans hB1_d.symm, hB2.trans hB2_d.symm⟩) (by decide) (fun w hS => R.indexArr (i := 2) Tryd.underlying27 sz5 rfl rfl rfl (by decide)) ?_
      refine AH.take 10 rfl (by kernel_rfl) (by kernel_rfl) (by kernel_rfl) (fun _ _ _ _ h => h) (⟨hB1.trans hB1_d.symm, hB2.trans hB2_d.symm⟩) (by decide) (fun w hS => R.load Tryd.underlying5 rfl rfl (cell_at (hS.1.trans hB1_d) (SeedV.atAddr e2))) ?_
      refine AH.take 11 rfl (by kernel_rfl) (by kernel_rfl) (by kernel_rfl) (fun _ _ _ _ h => h) (⟨hB1.trans hB1_d.symm, hB2.trans hB2_d.symm⟩) (by decide) (fun w hS => FA50_3 rfl) ?_
      refine AH.take 12 rfl (by kernel_rfl) (by kernel_rfl) (by kernel_rfl) (fun _ _ _ _ h => h) (⟨hB1.trans hB1_d.symm, hB2.trans hB2_d.symm⟩) (by decide) (fun w hS => R.indexArr (i := 3) Tryd.underlying27 sz5 rfl rfl rfl (by decide)) ?_
      refine AH.take 13 rfl (by kernel_rfl) (by kernel_rfl) (by kernel_rfl) (fun _ _ _ _ h => h) (⟨hB1.trans hB1_d.symm, hB2.trans hB2_d.symm⟩) (by decide) (fun w hS => R.load Tryd.underlying5 rfl rfl (cell_at (hS.1.trans hB1_d) (SeedV.atAddr e3))) ?_
      refine AH.eff 14 (by kernel_rfl) rfl rfl (OP.buildSlice (parts := [(0, _), (1, _), (2, _), (3, _), (4, _), (5, _)]) (vals := [(0, u8v 255), (1, u8v 255), (2, _), (3, _), (4, _), (5, _)]) (cells := #[u8v 255, u8v 255, u8v c0, u8v c1, u8v c2, u8v c3]) (ty := 5) (by decide) rfl (fun w => slice6 c0 c1 c2 c3 w) ?_)
      intro w46 hc_w46 hs_w46 hN
      have hB1 := hc_w46.at hB1 (fun e => e)
      have hB2 := hc_w46.at hB2 (fun e => e)
      have hB3 := hc_w46.at hB3 (fun e => e)
      have hC := hC.trans hc_w46
      have hz_w46 := hc_w46.size
      refine ⟨⟨hB1.trans hB1_d.symm, hB2.trans hB2_d.symm⟩, ?_⟩
      refine AH.eff 15 (by kernel_rfl) rfl rfl (OP.copy (cs := [255, 255, c0, c1, c2, c3]) (by decide) rfl rfl hB3 rfl (cells_one6 hN) (by rw [List.size_toArray, Rec.length (by rfl)]; exact Nat.le_of_ble_eq_true rfl) ?_)
      intro w47 hc_w47 hs_w47 hB3
      have hB1 := hc_w47.at hB1 (fun e => by omega)
      have hB2 := hc_w47.at hB2 (fun e => by omega)
      have hC := hC.thenB hc_w47 (by omega)
      have hB3 : w47.heap[b3]? = some (.cells (Rec.cells ⟨nameN s.name, 1, s.ttl % 65536, mappedL ++ [c0, c1, c2, c3], [], []⟩).toArray 57 (0, 0)) := hB3
      refine ⟨⟨hB1.trans hB1_d.symm, hB2.trans hB2_d.symm⟩, ?_⟩
      refine AH.done (by kernel_rfl) ?_
      refine EW.inNormal ?_
      refine EW.next ?_
      refine CW.rseq ?_
      refine WL.op (by decide) (R.loadRB (by first | assumption | rfl) rfl hB3) ?_
      refine WL.eff rfl (OP.storeR rfl rfl (by first | assumption | rfl) (by first | assumption | rfl) hB2 ?_)
      intro w48 hc_w48 hs_w48 hB2
      have hB1 := hc_w48.at hB1 (fun e => by omega)
      have hB3 := hc_w48.at hB3 (fun e => by omega)
      have hC := hC.thenB hc_w48 (by omega)
      refine WL.next ?_
      refine CW.ret ?_
      have hR := rec_a (s := s) (by omega)
      rw [show mappedL ++ s.addr.take 4 = mappedL ++ [c0, c1, c2, c3] by rw [e4]] at hR
      exact EW.retC (.inl rfl) rfl rfl (cs := (recS s).cells) Tryd.underlying57 rfl (by rw [Rec.length (recS_addr hs16)]; exact sz57) (fun j u hj => cell_at hB2 (by rw [hR] at hj; rw [List.getElem?_toArray]; exact hj)) ⟨rfl, hC⟩
    · skip
      refine WL.op (by decide) (R.assign rfl) ?_
      refine WL.next ?_
      refine CW.condF rfl ?_
      refine CW.region ?_
      refine WL.eqlS (by decide) rfl rfl (fun h9 => ?_) (fun h9 => ?_)
      · skip
        refine WL.op (by decide) (R.assign rfl) ?_
        refine WL.nil ?_
        refine EW.next ?_
        refine CW.condT rfl ?_
        refine CW.rseq ?_
        refine WL.op (by decide) (FA57_1 rfl) ?_
        refine WL.eff rfl (OP.storeRType rfl rfl hB3 ?_)
        intro w49 hc_w49 hs_w49 hB3
        have hB1 := hc_w49.at hB1 (fun e => by omega)
        have hB2 := hc_w49.at hB2 (fun e => by omega)
        have hC := hC.thenB hc_w49 (by omega)
        refine WL.next ?_
        have hB1_d := hB1
        have hB2_d := hB2
        refine CW.draw (fun w => w.heap[b1]? = w49.heap[b1]? ∧ w.heap[b2]? = w49.heap[b2]?) (by kernel_rfl) ?_
        have hc_w50 : Chg (fun _ => False) w49 w49.drew := Chg.drew _ _
        obtain ⟨w50, he_w50⟩ : ∃ w, w = w49.drew := ⟨_, rfl⟩
        rw [← he_w50] at hc_w50 ⊢
        have hB1 := hc_w50.at hB1 (fun e => e)
        have hB2 := hc_w50.at hB2 (fun e => e)
        have hB3 := hc_w50.at hB3 (fun e => e)
        have hC := hC.trans hc_w50
        have hz_w50 := hc_w50.size
        refine AH.take 0 rfl (by kernel_rfl) (by kernel_rfl) (by kernel_rfl) (fun _ _ _ _ h => h) (⟨hB1.trans hB1_d.symm, hB2.trans hB2_d.symm⟩) (by decide) (fun w hS => FA57_3 rfl) ?_
        refine AH.take 1 rfl (by kernel_rfl) (by kernel_rfl) (by kernel_rfl) (fun _ _ _ _ h => h) (⟨hB1.trans hB1_d.symm, hB2.trans hB2_d.symm⟩) (by decide) (fun w hS => R.sliceArr (lo := some _) (hi := none) (hv := none) (lv := some (.int .i64 10)) (l1 := 10) (h1 := 16) Tryd.underlying27 sz5 rfl rfl rfl (by kernel_rfl) (by decide)) ?_
        refine AH.take 2 rfl (by kernel_rfl) (by kernel_rfl) (by kernel_rfl) (fun _ _ _ _ h => h) (⟨hB1.trans hB1_d.symm, hB2.trans hB2_d.symm⟩) (by decide) (fun w hS => FA50_3 rfl) ?_
        refine AH.take 3 rfl (by kernel_rfl) (by kernel_rfl) (by kernel_rfl) (fun _ _ _ _ h => h) (⟨hB1.trans hB1_d.symm, hB2.trans hB2_d.symm⟩) (by decide) (fun w hS => R.indexArr (i := 0) Tryd.underlying27 sz5 rfl rfl rfl (by decide)) ?_
        refine AH.take 4 rfl (by kernel_rfl) (by kernel_rfl) (by kernel_rfl) (fun _ _ _ _ h => h) (⟨hB1.trans hB1_d.symm, hB2.trans hB2_d.symm⟩) (by decide) (fun w hS => R.load Tryd.underlying5 rfl rfl (cell_at (hS.1.trans hB1_d) (SeedV.atAddr e0))) ?_
        refine AH.take 5 rfl (by kernel_rfl) (by kernel_rfl) (by kernel_rfl) (fun _ _ _ _ h => h) (⟨hB1.trans hB1_d.symm, hB2.trans hB2_d.symm⟩) (by decide) (fun w hS => FA50_3 rfl) ?_
        refine AH.take 6 rfl (by kernel_rfl) (by kernel_rfl) (by kernel_rfl) (fun _ _ _ _ h => h) (⟨hB1.trans hB1_d.symm, hB2.trans hB2_d.symm⟩) (by decide) (fun w hS => R.indexArr (i := 1) Tryd.underlying27 sz5 rfl rfl rfl (by decide)) ?_
        refine AH.take 7 rfl (by kernel_rfl) (by kernel_rfl) (by kernel_rfl) (fun _ _ _ _ h => h) (⟨hB1.trans hB1_d.symm, hB2.trans hB2_d.symm⟩) (by decide) (fun w hS => R.load Tryd.underlying5 rfl rfl (cell_at (hS.1.trans hB1_d) (SeedV.atAddr e1))) ?_
        refine AH.take 8 rfl (by kernel_rfl) (by kernel_rfl) (by kernel_rfl) (fun _ _ _ _ h => h) (⟨hB1.trans hB1_d.symm, hB2.trans hB2_d.symm⟩) (by decide) (fun w hS => FA50_3 rfl) ?_
        refine AH.take 9 rfl (by kernel_rfl) (by kernel_rfl) (by kernel_rfl) (fun _ _ _ _ h => h) (⟨hB1.trans hB1_d.symm, hB2.trans hB2_d.symm⟩) (by decide) (fun w hS => R.indexArr (i := 2) Tryd.underlying27 sz5 rfl rfl rfl (by decide)) ?_
        refine AH.take 10 rfl (by kernel_rfl) (by kernel_rfl) (by kernel_rfl) (fun _ _ _ _ h => h) (⟨hB1.trans hB1_d.symm, hB2.trans hB2_d.symm⟩) (by decide) (fun w hS => R.load Tryd.underlying5 rfl rfl (cell_at (hS.1.trans hB1_d) (SeedV.atAddr e2))) ?_
        refine AH.take 11 rfl (by kernel_rfl) (by kernel_rfl) (by kernel_rfl) (fun _ _ _ _ h => h) (⟨hB1.trans hB1_d.symm, hB2.trans hB2_d.symm⟩) (by decide) (fun w hS => FA50_3 rfl) ?_
        refine AH.take 12 rfl (by kernel_rfl) (by kernel_rfl) (by kernel_rfl) (fun _ _ _ _ h => h) (⟨hB1.trans hB1_d.symm, hB2.trans hB2_d.symm⟩) (by decide) (fun w hS => R.indexArr (i := 3) Tryd.underlying27 sz5 rfl rfl rfl (by decide)) ?_
        refine AH.take 13 rfl (by kernel_rfl) (by kernel_rfl) (by kernel_rfl) (fun _ _ _ _ h => h) (⟨hB1.trans hB1_d.symm, hB2.trans hB2_d.symm⟩) (by decide) (fun w hS => R.load Tryd.underlying5 rfl rfl (cell_at (hS.1.trans hB1_d) (SeedV.atAddr e3))) ?_
        refine AH.eff 14 (by kernel_rfl) rfl rfl (OP.buildSlice (parts := [(0, _), (1, _), (2, _), (3, _), (4, _), (5, _)]) (vals := [(0, u8v 255), (1, u8v 255), (2, _), (3, _), (4, _), (5, _)]) (cells := #[u8v 255, u8v 255, u8v c0, u8v c1, u8v c2, u8v c3]) (ty := 5) (by decide) rfl (fun w => slice6 c0 c1 c2 c3 w) ?_)
        intro w51 hc_w51 hs_w51 hN
        have hB1 := hc_w51.at hB1 (fun e => e)
        have hB2 := hc_w51.at hB2 (fun e => e)
        have hB3 := hc_w51.at hB3 (fun e => e)
        have hC := hC.trans hc_w51
        have hz_w51 := hc_w51.size
        refine ⟨⟨hB1.trans hB1_d.symm, hB2.trans hB2_d.symm⟩, ?_⟩
        refine AH.eff 15 (by kernel_rfl) rfl rfl (OP.copy (cs := [255, 255, c0, c1, c2, c3]) (by decide) rfl rfl hB3 rfl (cells_one6 hN) (by rw [List.size_toArray, Rec.length (by rfl)]; exact Nat.le_of_ble_eq_true rfl) ?_)
        intro w52 hc_w52 hs_w52 hB3
        have hB1 := hc_w52.at hB1 (fun e => by omega)
        have hB2 := hc_w52.at hB2 (fun e => by omega)
        have hC := hC.thenB hc_w52 (by omega)
        have hB3 : w52.heap[b3]? = some (.cells (Rec.cells ⟨nameN s.name, 1, s.ttl % 65536, mappedL ++ [c0, c1, c2, c3], [], []⟩).toArray 57 (0, 0)) := hB3
        refine ⟨⟨hB1.trans hB1_d.symm, hB2.trans hB2_d.symm⟩, ?_⟩
        refine AH.done (by kernel_rfl) ?_
        refine EW.inNormal ?_
        refine EW.next ?_
        refine CW.rseq ?_
        refine WL.op (by decide) (R.loadRB (by first | assumption | rfl) rfl hB3) ?_
        refine WL.eff rfl (OP.storeR rfl rfl (by first | assumption | rfl) (by first | assumption | rfl) hB2 ?_)
        intro w53 hc_w53 hs_w53 hB2
        have hB1 := hc_w53.at hB1 (fun e => by omega)
        have hB3 := hc_w53.at hB3 (fun e => by omega)
        have hC := hC.thenB hc_w53 (by omega)
        refine WL.next ?_
        refine CW.ret ?_
        have hR := rec_a (s := s) (by omega)
        rw [show mappedL ++ s.addr.take 4 = mappedL ++ [c0, c1, c2, c3] by rw [e4]] at hR
        exact EW.retC (.inl rfl) rfl rfl (cs := (recS s).cells) Tryd.underlying57 rfl (by rw [Rec.length (recS_addr hs16)]; exact sz57) (fun j u hj => cell_at hB2 (by rw [hR] at hj; rw [List.getElem?_toArray]; exact hj)) ⟨rfl, hC⟩
      · skip
        refine WL.op (by decide) (R.assign rfl) ?_
        refine WL.nil ?_
        refine EW.next ?_
        refine CW.condF rfl ?_
        refine CW.seq ?_
        refine CW.rseq ?_
        refine WL.eqlS (by decide) rfl rfl (fun h10 => ?_) (fun h10 => ?_)
        · skip
          refine WL.op (by decide) (R.assign rfl) ?_
          refine WL.next ?_
          refine CW.condT rfl ?_
          refine CW.skip ?_
          refine EW.next ?_
          refine CW.condT rfl ?_
          have hB1_d := hB1
          have hB2_d := hB2
          refine CW.draw (fun w => w.heap[b1]? = w43.heap[b1]? ∧ w.heap[b2]? = w43.heap[b2]?) (by kernel_rfl) ?_
          have hc_w54 : Chg (fun _ => False) w43 w43.drew := Chg.drew _ _
          obtain ⟨w54, he_w54⟩ : ∃ w, w = w43.drew := ⟨_, rfl⟩
          rw [← he_w54] at hc_w54 ⊢
          have hB1 := hc_w54.at hB1 (fun e => e)
          have hB2 := hc_w54.at hB2 (fun e => e)
          have hB3 := hc_w54.at hB3 (fun e => e)
          have hC := hC.trans hc_w54
          have hz_w54 := hc_w54.size
          refine AH.take 0 rfl (by kernel_rfl) (by kernel_rfl) (by kernel_rfl) (fun _ _ _ _ h => h) (⟨hB1.trans hB1_d.symm, hB2.trans hB2_d.symm⟩) (by decide) (fun w hS => FA50_3 rfl) ?_
          refine AH.take 1 rfl (by kernel_rfl) (by kernel_rfl) (by kernel_rfl) (fun _ _ _ _ h => h) (⟨hB1.trans hB1_d.symm, hB2.trans hB2_d.symm⟩) (by decide) (fun w hS => R.loadSdA (by assumption) rfl (hS.1.trans hB1_d)) ?_
          refine AH.take 2 rfl (by kernel_rfl) (by kernel_rfl) (by kernel_rfl) (fun _ _ _ _ h => h) (⟨hB1.trans hB1_d.symm, hB2.trans hB2_d.symm⟩) (by decide) (fun w hS => FA57_1 rfl) ?_
          refine AH.eff 3 (by kernel_rfl) rfl rfl (OP.storeRType rfl rfl hB3 ?_)
          intro w55 hc_w55 hs_w55 hB3
          have hB1 := hc_w55.at hB1 (fun e => by omega)
          have hB2 := hc_w55.at hB2 (fun e => by omega)
          have hC := hC.thenB hc_w55 (by omega)
          refine ⟨⟨hB1.trans hB1_d.symm, hB2.trans hB2_d.symm⟩, ?_⟩
          refine AH.take 4 rfl (by kernel_rfl) (by kernel_rfl) (by kernel_rfl) (fun _ _ _ _ h => h) (⟨hB1.trans hB1_d.symm, hB2.trans hB2_d.symm⟩) (by decide) (fun w hS => FA57_3 rfl) ?_
          refine AH.eff 5 (by kernel_rfl) rfl rfl (OP.storeRAddr (by first | assumption | rfl) (by first | assumption | rfl) rfl rfl hB3 ?_)
          intro w56 hc_w56 hs_w56 hB3
          have hB1 := hc_w56.at hB1 (fun e => by omega)
          have hB2 := hc_w56.at hB2 (fun e => by omega)
          have hC := hC.thenB hc_w56 (by omega)
          refine ⟨⟨hB1.trans hB1_d.symm, hB2.trans hB2_d.symm⟩, ?_⟩
          refine AH.done (by kernel_rfl) ?_
          refine EW.inNormal ?_
          refine EW.next ?_
          refine CW.rseq ?_
          refine WL.op (by decide) (R.loadRB (by first | assumption | rfl) rfl hB3) ?_
          refine WL.eff rfl (OP.storeR rfl rfl (by first | assumption | rfl) (by first | assumption | rfl) hB2 ?_)
          intro w57 hc_w57 hs_w57 hB2
          have hB1 := hc_w57.at hB1 (fun e => by omega)
          have hB3 := hc_w57.at hB3 (fun e => by omega)
          have hC := hC.thenB hc_w57 (by omega)
          refine WL.next ?_
          refine CW.ret ?_
          have hR := rec_b (s := s) (by omega)
          exact EW.retC (.inl rfl) rfl rfl (cs := (recS s).cells) Tryd.underlying57 rfl (by rw [Rec.length (recS_addr hs16)]; exact sz57) (fun j u hj => cell_at hB2 (by rw [hR] at hj; rw [List.getElem?_toArray]; exact hj)) ⟨rfl, hC⟩
        · skip
          refine WL.op (by decide) (R.assign rfl) ?_
          refine WL.next ?_
          refine CW.condF rfl ?_
          refine CW.region ?_
          refine WL.eqlS (by decide) rfl rfl (fun h11 => ?_) (fun h11 => ?_)
          · skip
            refine WL.op (by decide) (R.assign rfl) ?_
            refine WL.nil ?_
            refine EW.next ?_
            refine CW.condT rfl ?_
            have hB1_d := hB1
            have hB2_d := hB2
            refine CW.draw (fun w => w.heap[b1]? = w43.heap[b1]? ∧ w.heap[b2]? = w43.heap[b2]?) (by kernel_rfl) ?_
            have hc_w58 : Chg (fun _ => False) w43 w43.drew := Chg.drew _ _
            obtain ⟨w58, he_w58⟩ : ∃ w, w = w43.drew := ⟨_, rfl⟩
            rw [← he_w58] at hc_w58 ⊢
            have hB1 := hc_w58.at hB1 (fun e => e)
            have hB2 := hc_w58.at hB2 (fun e => e)
            have hB3 := hc_w58.at hB3 (fun e => e)
            have hC := hC.trans hc_w58
            have hz_w58 := hc_w58.size
            refine AH.take 0 rfl (by kernel_rfl) (by kernel_rfl) (by kernel_rfl) (fun _ _ _ _ h => h) (⟨hB1.trans hB1_d.symm, hB2.trans hB2_d.symm⟩) (by decide) (fun w hS => FA50_3 rfl) ?_
            refine AH.take 1 rfl (by kernel_rfl) (by kernel_rfl) (by kernel_rfl) (fun _ _ _ _ h => h) (⟨hB1.trans hB1_d.symm, hB2.trans hB2_d.symm⟩) (by decide) (fun w hS => R.loadSdA (by assumption) rfl (hS.1.trans hB1_d)) ?_
            refine AH.take 2 rfl (by kernel_rfl) (by kernel_rfl) (by kernel_rfl) (fun _ _ _ _ h => h) (⟨hB1.trans hB1_d.symm, hB2.trans hB2_d.symm⟩) (by decide) (fun w hS => FA57_1 rfl) ?_
            refine AH.eff 3 (by kernel_rfl) rfl rfl (OP.storeRType rfl rfl hB3 ?_)
            intro w59 hc_w59 hs_w59 hB3
            have hB1 := hc_w59.at hB1 (fun e => by omega)
            have hB2 := hc_w59.at hB2 (fun e => by omega)
            have hC := hC.thenB hc_w59 (by omega)
            refine ⟨⟨hB1.trans hB1_d.symm, hB2.trans hB2_d.symm⟩, ?_⟩
            refine AH.take 4 rfl (by kernel_rfl) (by kernel_rfl) (by kernel_rfl) (fun _ _ _ _ h => h) (⟨hB1.trans hB1_d.symm, hB2.trans hB2_d.symm⟩) (by decide) (fun w hS => FA57_3 rfl) ?_
            refine AH.eff 5 (by kernel_rfl) rfl rfl (OP.storeRAddr (by first | assumption | rfl) (by first | assumption | rfl) rfl rfl hB3 ?_)
            intro w60 hc_w60 hs_w60 hB3
            have hB1 := hc_w60.at hB1 (fun e => by omega)
            have hB2 := hc_w60.at hB2 (fun e => by omega)
            have hC := hC.thenB hc_w60 (by omega)
            refine ⟨⟨hB1.trans hB1_d.symm, hB2.trans hB2_d.symm⟩, ?_⟩
            refine AH.done (by kernel_rfl) ?_
            refine EW.inNormal ?_
            refine EW.next ?_
            refine CW.rseq ?_
            refine WL.op (by decide) (R.loadRB (by first | assumption | rfl) rfl hB3) ?_
            refine WL.eff rfl (OP.storeR rfl rfl (by first | assumption | rfl) (by first | assumption | rfl) hB2 ?_)
            intro w61 hc_w61 hs_w61 hB2
            have hB1 := hc_w61.at hB1 (fun e => by omega)
            have hB3 := hc_w61.at hB3 (fun e => by omega)
            have hC := hC.thenB hc_w61 (by omega)
            refine WL.next ?_
            refine CW.ret ?_
            have hR := rec_b (s := s) (by omega)
            exact EW.retC (.inl rfl) rfl rfl (cs := (recS s).cells) Tryd.underlying57 rfl (by rw [Rec.length (recS_addr hs16)]; exact sz57) (fun j u hj => cell_at hB2 (by rw [hR] at hj; rw [List.getElem?_toArray]; exact hj)) ⟨rfl, hC⟩
          · skip
            refine WL.op (by decide) (R.assign rfl) ?_
            refine WL.nil ?_
            refine EW.next ?_
            refine CW.condF rfl ?_
            refine CW.rseq ?_
            refine WL.eqlS (by decide) rfl rfl (fun h12 => ?_) (fun h12 => ?_)
            · skip
              refine WL.op (by decide) (R.assign rfl) ?_
              refine WL.next ?_
              refine CW.condT rfl ?_
              refine CW.region ?_
              refine WL.op (by decide) (FA50_0 rfl) ?_
              refine WL.op (by decide) (R.load Tryd.underlying3 rfl rfl (cell_at hB1 rfl)) ?_
              refine WL.op (by decide) (R.shr rfl rfl (by omega)) ?_
              refine WL.eff rfl (OP.call (by decide) Tryd.func33 (by kernel_rfl) (by kernel_rfl) rfl (name_any _ _) ?_)
              rintro ed w62 ⟨rfl, hc_w62⟩
              refine ⟨_, rfl, ?_⟩
              have hB1 := hc_w62.at hB1 (fun e => e)
              have hB2 := hc_w62.at hB2 (fun e => e)
              have hB3 := hc_w62.at hB3 (fun e => e)
              have hC := hC.trans hc_w62
              have hz_w62 := hc_w62.size
              refine WL.op (by decide) (FA57_1 rfl) ?_
              refine WL.eff rfl (OP.storeRType rfl rfl hB3 ?_)
              intro w63 hc_w63 hs_w63 hB3
              have hB1 := hc_w63.at hB1 (fun e => by omega)
              have hB2 := hc_w63.at hB2 (fun e => by omega)
              have hC := hC.thenB hc_w63 (by omega)
              refine WL.op (by decide) (FA57_4 rfl) ?_
              refine WL.eff rfl (OP.storeRText (by first | assumption | rfl) rfl rfl hB3 ?_)
              intro w64 hc_w64 hs_w64 hB3
              have hB1 := hc_w64.at hB1 (fun e => by omega)
              have hB2 := hc_w64.at hB2 (fun e => by omega)
              have hC := hC.thenB hc_w64 (by omega)
              refine WL.nil ?_
              refine EW.inNormal ?_
              refine EW.next ?_
              refine CW.rseq ?_
              refine WL.op (by decide) (R.loadRB (by first | assumption | rfl) rfl hB3) ?_
              refine WL.eff rfl (OP.storeR rfl rfl (by first | assumption | rfl) (by first | assumption | rfl) hB2 ?_)
              intro w65 hc_w65 hs_w65 hB2
              have hB1 := hc_w65.at hB1 (fun e => by omega)
              have hB3 := hc_w65.at hB3 (fun e => by omega)
              have hC := hC.thenB hc_w65 (by omega)
              refine WL.next ?_
              refine CW.ret ?_
              have hR := rec_c (s := s) (by omega)
              exact EW.retC (.inl rfl) rfl rfl (cs := (recS s).cells) Tryd.underlying57 rfl (by rw [Rec.length (recS_addr hs16)]; exact sz57) (fun j u hj => cell_at hB2 (by rw [hR] at hj; rw [List.getElem?_toArray]; exact hj)) ⟨rfl, hC⟩
            · skip
              refine WL.op (by decide) (R.assign rfl) ?_
              refine WL.next ?_
              refine CW.condF rfl ?_
              refine CW.rseq ?_
              refine WL.eqlS (by decide) rfl rfl (fun h13 => ?_) (fun h13 => ?_)
              · skip
                refine WL.op (by decide) (R.assign rfl) ?_
                refine WL.next ?_
                refine CW.condT rfl ?_
                refine CW.region ?_
                refine WL.op (by decide) (FA50_0 rfl) ?_
                refine WL.op (by decide) (R.load Tryd.underlying3 rfl rfl (cell_at hB1 rfl)) ?_
                refine WL.op (by decide) (R.shr rfl rfl (by omega)) ?_
                refine WL.eff rfl (OP.call (by decide) Tryd.func33 (by kernel_rfl) (by kernel_rfl) rfl (name_any _ _) ?_)
                rintro ed w66 ⟨rfl, hc_w66⟩
                refine ⟨_, rfl, ?_⟩
                have hB1 := hc_w66.at hB1 (fun e => e)
                have hB2 := hc_w66.at hB2 (fun e => e)
                have hB3 := hc_w66.at hB3 (fun e => e)
                have hC := hC.trans hc_w66
                have hz_w66 := hc_w66.size
                refine WL.op (by decide) (FA57_1 rfl) ?_
                refine WL.eff rfl (OP.storeRType rfl rfl hB3 ?_)
                intro w67 hc_w67 hs_w67 hB3
                have hB1 := hc_w67.at hB1 (fun e => by omega)
                have hB2 := hc_w67.at hB2 (fun e => by omega)
                have hC := hC.thenB hc_w67 (by omega)
                refine WL.op (by decide) (FA57_4 rfl) ?_
                refine WL.eff rfl (OP.storeRText (by first | assumption | rfl) rfl rfl hB3 ?_)
                intro w68 hc_w68 hs_w68 hB3
                have hB1 := hc_w68.at hB1 (fun e => by omega)
                have hB2 := hc_w68.at hB2 (fun e => by omega)
                have hC := hC.thenB hc_w68 (by omega)
                refine WL.nil ?_
                refine EW.inNormal ?_
                refine EW.next ?_
                refine CW.rseq ?_
                refine WL.op (by decide) (R.loadRB (by first | assumption | rfl) rfl hB3) ?_
                refine WL.eff rfl (OP.storeR rfl rfl (by first | assumption | rfl) (by first | assumption | rfl) hB2 ?_)
                intro w69 hc_w69 hs_w69 hB2
                have hB1 := hc_w69.at hB1 (fun e => by omega)
                have hB3 := hc_w69.at hB3 (fun e => by omega)
                have hC := hC.thenB hc_w69 (by omega)
                refine WL.next ?_
                refine CW.ret ?_
                have hR := rec_d (s := s) (by omega)
                exact EW.retC (.inl rfl) rfl rfl (cs := (recS s).cells) Tryd.underlying57 rfl (by rw [Rec.length (recS_addr hs16)]; exact sz57) (fun j u hj => cell_at hB2 (by rw [hR] at hj; rw [List.getElem?_toArray]; exact hj)) ⟨rfl, hC⟩
              · skip
                refine WL.op (by decide) (R.assign rfl) ?_
                refine WL.next ?_
                refine CW.condF rfl ?_
                refine CW.rseq ?_
                refine WL.eqlS (by decide) rfl rfl (fun h14 => ?_) (fun h14 => ?_)
                · skip
                  refine WL.op (by decide) (R.assign rfl) ?_
                  refine WL.next ?_
                  refine CW.condT rfl ?_
                  have hB1_d := hB1
                  have hB2_d := hB2
                  refine CW.draw (fun w => w.heap[b1]? = w43.heap[b1]? ∧ w.heap[b2]? = w43.heap[b2]?) (by kernel_rfl) ?_
                  have hc_w70 : Chg (fun _ => False) w43 w43.drew := Chg.drew _ _
                  obtain ⟨w70, he_w70⟩ : ∃ w, w = w43.drew := ⟨_, rfl⟩
                  rw [← he_w70] at hc_w70 ⊢
                  have hB1 := hc_w70.at hB1 (fun e => e)
                  have hB2 := hc_w70.at hB2 (fun e => e)
                  have hB3 := hc_w70.at hB3 (fun e => e)
                  have hC := hC.trans hc_w70
                  have hz_w70 := hc_w70.size
                  refine AH.take 0 rfl (by kernel_rfl) (by kernel_rfl) (by kernel_rfl) (fun _ _ _ _ h => h) (⟨hB1.trans hB1_d.symm, hB2.trans hB2_d.symm⟩) (by decide) (fun w hS => FA50_4 rfl) ?_
                  refine AH.take 1 rfl (by kernel_rfl) (by kernel_rfl) (by kernel_rfl) (fun _ _ _ _ h => h) (⟨hB1.trans hB1_d.symm, hB2.trans hB2_d.symm⟩) (by decide) (fun w hS => R.load Tryd.underlying9 rfl rfl (cell_at (hS.1.trans hB1_d) (SeedV.at19 (by assumption)))) ?_
                  refine AH.take 2 rfl (by kernel_rfl) (by kernel_rfl) (by kernel_rfl) (fun _ _ _ _ h => h) (⟨hB1.trans hB1_d.symm, hB2.trans hB2_d.symm⟩) (by decide) (fun w hS => FA50_4 rfl) ?_
                  refine AH.take 3 rfl (by kernel_rfl) (by kernel_rfl) (by kernel_rfl) (fun _ _ _ _ h => h) (⟨hB1.trans hB1_d.symm, hB2.trans hB2_d.symm⟩) (by decide) (fun w hS => R.load Tryd.underlying9 rfl rfl (cell_at (hS.1.trans hB1_d) (SeedV.at19 (by assumption)))) ?_
                  refine AH.take 4 rfl (by kernel_rfl) (by kernel_rfl) (by kernel_rfl) (fun _ _ _ _ h => h) (⟨hB1.trans hB1_d.symm, hB2.trans hB2_d.symm⟩) (by decide) (fun w hS => R.lenS rfl rfl) ?_
                  refine AH.take 5 rfl (by kernel_rfl) (by kernel_rfl) (by kernel_rfl) (fun _ _ _ _ h => h) (⟨hB1.trans hB1_d.symm, hB2.trans hB2_d.symm⟩) (by decide) (fun w hS => R.minC rfl rfl) ?_
                  refine AH.take 6 rfl (by kernel_rfl) (by kernel_rfl) (by kernel_rfl) (fun _ _ _ _ h => h) (⟨hB1.trans hB1_d.symm, hB2.trans hB2_d.symm⟩) (by decide) (fun w hS => R.sliceHi rfl rfl) ?_
                  refine AH.take 7 rfl (by kernel_rfl) (by kernel_rfl) (by kernel_rfl) (fun _ _ _ _ h => h) (⟨hB1.trans hB1_d.symm, hB2.trans hB2_d.symm⟩) (by decide) (fun w hS => FA57_1 rfl) ?_
                  refine AH.eff 8 (by kernel_rfl) rfl rfl (OP.storeRType rfl rfl hB3 ?_)
                  intro w71 hc_w71 hs_w71 hB3
                  have hB1 := hc_w71.at hB1 (fun e => by omega)
                  have hB2 := hc_w71.at hB2 (fun e => by omega)
                  have hC := hC.thenB hc_w71 (by omega)
                  refine ⟨⟨hB1.trans hB1_d.symm, hB2.trans hB2_d.symm⟩, ?_⟩
                  refine AH.take 9 rfl (by kernel_rfl) (by kernel_rfl) (by kernel_rfl) (fun _ _ _ _ h => h) (⟨hB1.trans hB1_d.symm, hB2.trans hB2_d.symm⟩) (by decide) (fun w hS => FA57_5 rfl) ?_
                  refine AH.eff 10 (by kernel_rfl) rfl rfl (OP.storeRData (by first | assumption | rfl) rfl rfl hB3 ?_)
                  intro w72 hc_w72 hs_w72 hB3
                  have hB1 := hc_w72.at hB1 (fun e => by omega)
                  have hB2 := hc_w72.at hB2 (fun e => by omega)
                  have hC := hC.thenB hc_w72 (by omega)
                  refine ⟨⟨hB1.trans hB1_d.symm, hB2.trans hB2_d.symm⟩, ?_⟩
                  refine AH.done (by kernel_rfl) ?_
                  refine EW.inNormal ?_
                  refine EW.next ?_
                  refine CW.rseq ?_
                  refine WL.op (by decide) (R.loadRB (by first | assumption | rfl) rfl hB3) ?_
                  refine WL.eff rfl (OP.storeR rfl rfl (by first | assumption | rfl) (by first | assumption | rfl) hB2 ?_)
                  intro w73 hc_w73 hs_w73 hB2
                  have hB1 := hc_w73.at hB1 (fun e => by omega)
                  have hB3 := hc_w73.at hB3 (fun e => by omega)
                  have hC := hC.thenB hc_w73 (by omega)
                  refine WL.next ?_
                  refine CW.ret ?_
                  have hR := rec_e (s := s) (by omega)
                  exact EW.retC (.inl rfl) rfl rfl (cs := (recS s).cells) Tryd.underlying57 rfl (by rw [Rec.length (recS_addr hs16)]; exact sz57) (fun j u hj => cell_at hB2 (by rw [hR] at hj; rw [List.getElem?_toArray]; exact hj)) ⟨rfl, hC⟩
                · skip
                  refine WL.op (by decide) (R.assign rfl) ?_
                  refine WL.next ?_
                  refine CW.condF rfl ?_
                  have hB1_d := hB1
                  have hB2_d := hB2
                  refine CW.draw (fun w => w.heap[b1]? = w43.heap[b1]? ∧ w.heap[b2]? = w43.heap[b2]?) (by kernel_rfl) ?_
                  have hc_w74 : Chg (fun _ => False) w43 w43.drew := Chg.drew _ _
                  obtain ⟨w74, he_w74⟩ : ∃ w, w = w43.drew := ⟨_, rfl⟩
                  rw [← he_w74] at hc_w74 ⊢
                  have hB1 := hc_w74.at hB1 (fun e => e)
                  have hB2 := hc_w74.at hB2 (fun e => e)
                  have hB3 := hc_w74.at hB3 (fun e => e)
                  have hC := hC.trans hc_w74
                  have hz_w74 := hc_w74.size
                  refine AH.take 0 rfl (by kernel_rfl) (by kernel_rfl) (by kernel_rfl) (fun _ _ _ _ h => h) (⟨hB1.trans hB1_d.symm, hB2.trans hB2_d.symm⟩) (by decide) (fun w hS => FA50_4 rfl) ?_
                  refine AH.take 1 rfl (by kernel_rfl) (by kernel_rfl) (by kernel_rfl) (fun _ _ _ _ h => h) (⟨hB1.trans hB1_d.symm, hB2.trans hB2_d.symm⟩) (by decide) (fun w hS => R.load Tryd.underlying9 rfl rfl (cell_at (hS.1.trans hB1_d) (SeedV.at19 (by assumption)))) ?_
                  refine AH.take 2 rfl (by kernel_rfl) (by kernel_rfl) (by kernel_rfl) (fun _ _ _ _ h => h) (⟨hB1.trans hB1_d.symm, hB2.trans hB2_d.symm⟩) (by decide) (fun w hS => FA50_4 rfl) ?_
                  refine AH.take 3 rfl (by kernel_rfl) (by kernel_rfl) (by kernel_rfl) (fun _ _ _ _ h => h) (⟨hB1.trans hB1_d.symm, hB2.trans hB2_d.symm⟩) (by decide) (fun w hS => R.load Tryd.underlying9 rfl rfl (cell_at (hS.1.trans hB1_d) (SeedV.at19 (by assumption)))) ?_
                  refine AH.take 4 rfl (by kernel_rfl) (by kernel_rfl) (by kernel_rfl) (fun _ _ _ _ h => h) (⟨hB1.trans hB1_d.symm, hB2.trans hB2_d.symm⟩) (by decide) (fun w hS => R.lenS rfl rfl) ?_
                  refine AH.take 5 rfl (by kernel_rfl) (by kernel_rfl) (by kernel_rfl) (fun _ _ _ _ h => h) (⟨hB1.trans hB1_d.symm, hB2.trans hB2_d.symm⟩) (by decide) (fun w hS => R.minC rfl rfl) ?_
                  refine AH.take 6 rfl (by kernel_rfl) (by kernel_rfl) (by kernel_rfl) (fun _ _ _ _ h => h) (⟨hB1.trans hB1_d.symm, hB2.trans hB2_d.symm⟩) (by decide) (fun w hS => R.sliceHi rfl rfl) ?_
                  refine AH.take 7 rfl (by kernel_rfl) (by kernel_rfl) (by kernel_rfl) (fun _ _ _ _ h => h) (⟨hB1.trans hB1_d.symm, hB2.trans hB2_d.symm⟩) (by decide) (fun w hS => FA57_1 rfl) ?_
                  refine AH.eff 8 (by kernel_rfl) rfl rfl (OP.storeRType rfl rfl hB3 ?_)
                  intro w75 hc_w75 hs_w75 hB3
                  have hB1 := hc_w75.at hB1 (fun e => by omega)
                  have hB2 := hc_w75.at hB2 (fun e => by omega)
                  have hC := hC.thenB hc_w75 (by omega)
                  refine ⟨⟨hB1.trans hB1_d.symm, hB2.trans hB2_d.symm⟩, ?_⟩
                  refine AH.take 9 rfl (by kernel_rfl) (by kernel_rfl) (by kernel_rfl) (fun _ _ _ _ h => h) (⟨hB1.trans hB1_d.symm, hB2.trans hB2_d.symm⟩) (by decide) (fun w hS => FA57_5 rfl) ?_
                  refine AH.eff 10 (by kernel_rfl) rfl rfl (OP.storeRData (by first | assumption | rfl) rfl rfl hB3 ?_)
                  intro w76 hc_w76 hs_w76 hB3
                  have hB1 := hc_w76.at hB1 (fun e => by omega)
                  have hB2 := hc_w76.at hB2 (fun e => by omega)
                  have hC := hC.thenB hc_w76 (by omega)
                  refine ⟨⟨hB1.trans hB1_d.symm, hB2.trans hB2_d.symm⟩, ?_⟩
                  refine AH.done (by kernel_rfl) ?_
                  refine EW.inNormal ?_
                  refine EW.next ?_
                  refine CW.rseq ?_
                  refine WL.op (by decide) (R.loadRB (by first | assumption | rfl) rfl hB3) ?_
                  refine WL.eff rfl (OP.storeR rfl rfl (by first | assumption | rfl) (by first | assumption | rfl) hB2 ?_)
                  intro w77 hc_w77 hs_w77 hB2
                  have hB1 := hc_w77.at hB1 (fun e => by omega)
                  have hB3 := hc_w77.at hB3 (fun e => by omega)
                  have hC := hC.thenB hc_w77 (by omega)
                  refine WL.next ?_
                  refine CW.ret ?_
                  have hR := rec_f (s := s) (by omega) (by omega)
                  exact EW.retC (.inl rfl) rfl rfl (cs := (recS s).cells) Tryd.underlying57 rfl (by rw [Rec.length (recS_addr hs16)]; exact sz57) (fun j u hj => cell_at hB2 (by rw [hR] at hj; rw [List.getElem?_toArray]; exact hj)) ⟨rfl, hC⟩
end Go.Proofs.YthcpjcgjmdfpjaaDoor
