/- (trans.Trans).Match. -/
import Derived.Test.YthcpjcgjmdfpjaaDoorDraw
namespace Go.Proofs.YthcpjcgjmdfpjaaDoor
open Go Go.RowKit
set_option maxRecDepth 100000
set_option maxHeartbeats 4000000

/-- Does it come where it is waited for? -/
def passT (t : Tr) (link gen : Int) (frm : List UInt8) (port : Int) : Bool := decide (link = t.link) && decide (gen = t.gen) && decide (port = t.port) && (t.group || decide (frm = t.to))
/-- Does it answer? -/
def ansT (t : Tr) (m : Msg) : Bool := m.reply && decide (m.id = t.id) && decide (m.qname = t.qname) && decide (m.qtype = t.qtype)
def MatchRes (t : Tr) (link gen : Int) (frm : List UInt8) (port : Int) (base : Nat) (res : Option Msg) (e : Ending) (w : World) : Prop :=
  match res with
  | some m => if passT t link gen frm port = true then ∃ v, e = .returned (.tuple #[v, .bool (ansT t m)]) ∧ MVF base w v m else e = .returned (.tuple #[zeroMV, .bool false])
  | none => e = .returned (.tuple #[zeroMV, .bool false])
theorem ans4 {a : Bool} {p q : Prop} : a = false ∨ (a = true ∧ ¬ p) ∨ (a = true ∧ p ∧ ¬ q) ∨ (a = true ∧ p ∧ q) := by
  cases a <;> by_cases hp : p <;> by_cases hq : q <;> simp [hp, hq]
theorem match_any (t : Tr) (link gen : Int) (frm : List UInt8) (port : Int) (A : Option Addr) (m c : Nat) (bs : List UInt8) (w : World) (h16 : t.to.length = 16) (hf16 : frm.length = 16) (hS : Src w A m c bs) (hgl : ∀ g o, A = some ⟨g, o, none⟩ → g < w.heap.size) (hm : m ≤ 1099511627776) (hG : Glob w) :
    Calls Tryd.prog 23 #[t.val, .int .i64 link, .int .i64 gen, .agg (frm.map u8v).toArray, .int .i64 port, .slice A m c] w fun e w' => Chg (fun _ => False) w w' ∧ MatchRes t link gen frm port w.heap.size (decode bs) e w' := by
  refine calls_cw (args := [t.val, .int .i64 link, .int .i64 gen, .agg (frm.map u8v).toArray, .int .i64 port, .slice A m c]) Tryd.func23 rfl rfl ?_
  show CW _ _ _ 70 [(0, t.val), (1, .int .i64 link), (2, .int .i64 gen), (3, .agg (frm.map u8v).toArray), (4, .int .i64 port), (5, .slice A m c)] w
  refine CW.rseq ?_  -- region 0
  refine WL.eff rfl (OP.box (by decide) rfl ?_)
  intro w1 hc1 hs1 hT0
  obtain ⟨bt, he_bt⟩ : ∃ b, b = w.heap.size := ⟨_, rfl⟩
  have hT : w1.heap[bt]? = some (.cells t.cells.toArray 29 (0, 0)) := by rw [he_bt]; exact hT0
  rw [← he_bt]
  refine WL.eff rfl (OP.box (by decide) rfl ?_)
  intro w2 hc2 hs2 hF0
  obtain ⟨bf, he_bf⟩ : ∃ b, b = w1.heap.size := ⟨_, rfl⟩
  have hF : w2.heap[bf]? = some (.cells (frm.map u8v).toArray 27 (0, 0)) := by rw [he_bf]; exact hF0
  rw [← he_bf]
  have hT := hc2.at hT (fun e => e)
  refine WL.eff rfl (OP.alloc1 (.agg (Msg.cells ⟨0, false, false, false, 0, [], 0, [], []⟩ (.slice none 0 0) (.slice none 0 0)).toArray) (by decide) (by kernel_rfl) ?_)
  intro w3 hc3 hs3 hR0
  obtain ⟨br, he_br⟩ : ∃ b, b = w2.heap.size := ⟨_, rfl⟩
  have hR : w3.heap[br]? = some (.cells (Msg.cells ⟨0, false, false, false, 0, [], 0, [], []⟩ (.slice none 0 0) (.slice none 0 0)).toArray 33 (0, 0)) := by rw [he_br]; exact hR0
  rw [← he_br]
  have hT := hc3.at hT (fun e => e)
  have hF := hc3.at hF (fun e => e)
  have hc13 : Chg (fun _ => False) w w3 := (hc1.trans hc2).trans hc3
  refine WL.op (by decide) (R.assign rfl) ?_  -- trans.go:34 t13 := (Op.assign c(Value.bool false))
  refine WL.next ?_
  refine CW.rseq ?_  -- region 1
  refine WL.op (by decide) (R.move rfl) ?_  -- trans.go:35 t17 := (Op.move t5)
  refine WL.eff rfl (OP.call (by decide) Tryd.func27 (by kernel_rfl) (by kernel_rfl) rfl (decode_any A m c bs w3 (hS.kept hc13 (fun _ _ _ e => e)) (fun g o h => by have := hgl g o h; omega) hm (hG.kept hc13 (fun e => e))) ?_)
  rintro ed w4 ⟨hc4, hres⟩
  have hz4 := hc4.size
  have hT := hc4.at hT (fun e => e)
  have hF := hc4.at hF (fun e => e)
  have hR := hc4.at hR (fun e => e)
  have hC := hc13.trans hc4
  cases hd : decode bs
  · skip
    rw [hd] at hres
    obtain rfl := hres
    refine ⟨_, rfl, ?_⟩
    refine WL.op (by decide) (R.move rfl) ?_  -- trans.go:35 t16 := (Op.move t18)
    refine WL.op (by decide) (R.extract rfl rfl) ?_  -- trans.go:35 t19 := (Op.extract t16 0)
    refine WL.op (by decide) (R.extract rfl rfl) ?_  -- trans.go:35 t20 := (Op.extract t16 1)
    refine WL.eff rfl (OP.alloc1 (.agg (Msg.cells ⟨0, false, false, false, 0, [], 0, [], []⟩ (.slice none 0 0) (.slice none 0 0)).toArray) (by decide) (by kernel_rfl) ?_)
    intro w5 hc5 hs5 hB0
    obtain ⟨bm, he_bm⟩ : ∃ b, b = w4.heap.size := ⟨_, rfl⟩
    have hBm : w5.heap[bm]? = some (.cells (Msg.cells ⟨0, false, false, false, 0, [], 0, [], []⟩ (.slice none 0 0) (.slice none 0 0)).toArray 33 (0, 0)) := by rw [he_bm]; exact hB0
    rw [← he_bm]
    have hT := hc5.at hT (fun e => e)
    have hF := hc5.at hF (fun e => e)
    have hR := hc5.at hR (fun e => e)
    have hC := hC.trans hc5
    refine WL.eff rfl (OP.storeAgg inf33.choose_spec.1 (by rw [inf33.choose_spec.2]; rfl) rfl rfl (m_all _ _ _ _ _ _ _) hBm rfl ?_)
    intro w6 hc6 hs6 hBm
    have hT := hc6.at hT (fun e => by omega)
    have hF := hc6.at hF (fun e => by omega)
    have hR := hc6.at hR (fun e => by omega)
    have hC := hC.then hc6 (fun k hk e => by omega)
    have hc46 : Chg (fun _ => False) w4 w6 := hc5.then hc6 (fun k hk e => by omega)
    refine WL.op (by decide) (R.assign rfl) ?_  -- trans.go:35 t15 := (Op.assign t20)
    refine WL.next ?_
    refine CW.seq ?_
    refine CW.rseq ?_  -- region 2
    refine WL.op (by decide) (R.move rfl) ?_  -- trans.go:36 t21 := (Op.move t15)
    refine WL.op (by decide) (R.neq rfl rfl (c := true) (by decide)) ?_
    refine WL.op (by decide) (R.move rfl) ?_  -- trans.go:36 t23 := (Op.move t22)
    refine WL.pass (by decide) rfl rfl rfl ?_  -- trans.go:36 t24 := (Op.move t1) [guard 2 false]
    refine WL.pass (by decide) rfl rfl rfl ?_  -- trans.go:36 t25 := (Op.fieldAddr 29 t6 1) [guard 2 false]
    refine WL.pass (by decide) rfl rfl rfl ?_  -- trans.go:36 t26 := (Op.load 3 t25) [guard 2 false]
    refine WL.pass (by decide) rfl rfl rfl ?_  -- trans.go:36 t27 := (Op.binOp BinOp.neq 3 t24 t26 3) [guard 2 false]
    refine WL.op (by decide) (R.pickT rfl rfl) ?_  -- trans.go:36 t28 := (Op.pick t23 c(Value.bool true) t27)
    refine WL.op (by decide) (R.move rfl) ?_  -- trans.go:36 t29 := (Op.move t28)
    refine WL.pass (by decide) rfl rfl rfl ?_  -- trans.go:36 t30 := (Op.move t2) [guard 8 false]
    refine WL.pass (by decide) rfl rfl rfl ?_  -- trans.go:36 t31 := (Op.fieldAddr 29 t6 2) [guard 8 false]
    refine WL.pass (by decide) rfl rfl rfl ?_  -- trans.go:36 t32 := (Op.load 3 t31) [guard 8 false]
    refine WL.pass (by decide) rfl rfl rfl ?_  -- trans.go:36 t33 := (Op.binOp BinOp.neq 3 t30 t32 3) [guard 8 false]
    refine WL.op (by decide) (R.pickT rfl rfl) ?_  -- trans.go:36 t34 := (Op.pick t29 c(Value.bool true) t33)
    refine WL.op (by decide) (R.move rfl) ?_  -- trans.go:36 t35 := (Op.move t34)
    refine WL.pass (by decide) rfl rfl rfl ?_  -- trans.go:36 t36 := (Op.move t4) [guard 14 false]
    refine WL.pass (by decide) rfl rfl rfl ?_  -- trans.go:36 t37 := (Op.fieldAddr 29 t6 5) [guard 14 false]
    refine WL.pass (by decide) rfl rfl rfl ?_  -- trans.go:36 t38 := (Op.load 3 t37) [guard 14 false]
    refine WL.pass (by decide) rfl rfl rfl ?_  -- trans.go:36 t39 := (Op.binOp BinOp.neq 3 t36 t38 3) [guard 14 false]
    refine WL.op (by decide) (R.pickT rfl rfl) ?_  -- trans.go:36 t40 := (Op.pick t35 c(Value.bool true) t39)
    refine WL.op (by decide) (R.move rfl) ?_  -- trans.go:36 t41 := (Op.move t40)
    refine WL.pass (by decide) rfl rfl rfl ?_  -- trans.go:36 t42 := (Op.fieldAddr 29 t6 7) [guard 20 false]
    refine WL.pass (by decide) rfl rfl rfl ?_  -- trans.go:36 t43 := (Op.load 4 t42) [guard 20 false]
    refine WL.pass (by decide) rfl rfl rfl ?_  -- trans.go:36 t44 := (Op.unOp UnOp.not 4 t43) [guard 20 false]
    refine WL.pass (by decide) rfl rfl rfl ?_  -- trans.go:36 t45 := (Op.move t44) [guard 20 false]
    refine WL.passU (by decide) rfl rfl ?_  -- trans.go:36 t46 := (Op.load 27 t9) [guard 24 true]
    refine WL.passU (by decide) rfl rfl ?_  -- trans.go:36 t47 := (Op.fieldAddr 29 t6 3) [guard 24 true]
    refine WL.passU (by decide) rfl rfl ?_  -- trans.go:36 t48 := (Op.load 27 t47) [guard 24 true]
    refine WL.passU (by decide) rfl rfl ?_  -- trans.go:36 t49 := (Op.binOp BinOp.neq 27 t46 t48 27) [guard 24 true]
    refine WL.pass (by decide) rfl rfl rfl ?_  -- trans.go:36 t50 := (Op.pick t45 t49 c(Value.bool false)) [guard 20 false]
    refine WL.op (by decide) (R.pickT rfl rfl) ?_  -- trans.go:36 t51 := (Op.pick t41 c(Value.bool true) t50)
    refine WL.next ?_
    refine CW.condT rfl ?_
    refine CW.rseq ?_  -- region 3
    refine WL.op (by decide) (R.build (parts := []) (vals := []) rfl (fun w => build33_0 w)) ?_  -- trans.go:37 t52 := (Op.build 33 [])
    refine WL.eff rfl (OP.storeAgg inf33.choose_spec.1 (by rw [inf33.choose_spec.2]; rfl) rfl rfl (m_all _ _ _ _ _ _ _) hR rfl ?_)
    intro w7 hc7 hs7 hR
    have hC := hC.then hc7 (fun k hk e => by omega)
    refine WL.op (by decide) (R.assign rfl) ?_  -- trans.go:37 t13 := (Op.assign c(Value.bool false))
    refine WL.next ?_
    refine CW.ret ?_
    refine EW.thenRet ?_
    exact EW.retCT (.inl rfl) rfl rfl rfl (cs := Msg.cells ⟨0, false, false, false, 0, [], 0, [], []⟩ (.slice none 0 0) (.slice none 0 0)) Tryd.underlying33 rfl sz33 (fun j u hj => cell_at hR (by rw [List.getElem?_toArray]; exact hj)) ⟨hC, rfl⟩
  · skip
    rename_i M
    rw [hd] at hres
    obtain ⟨v, rfl, va, vb, rfl, hva, hvb, hfa, hfb⟩ := hres
    obtain ⟨Aa, ca, rfl, _⟩ := hva.form
    obtain ⟨Ab, cb, rfl, _⟩ := hvb.form
    refine ⟨_, rfl, ?_⟩
    refine WL.op (by decide) (R.move rfl) ?_  -- trans.go:35 t16 := (Op.move t18)
    refine WL.op (by decide) (R.extract rfl rfl) ?_  -- trans.go:35 t19 := (Op.extract t16 0)
    refine WL.op (by decide) (R.extract rfl rfl) ?_  -- trans.go:35 t20 := (Op.extract t16 1)
    refine WL.eff rfl (OP.alloc1 (.agg (Msg.cells ⟨0, false, false, false, 0, [], 0, [], []⟩ (.slice none 0 0) (.slice none 0 0)).toArray) (by decide) (by kernel_rfl) ?_)
    intro w5 hc5 hs5 hB0
    obtain ⟨bm, he_bm⟩ : ∃ b, b = w4.heap.size := ⟨_, rfl⟩
    have hBm : w5.heap[bm]? = some (.cells (Msg.cells ⟨0, false, false, false, 0, [], 0, [], []⟩ (.slice none 0 0) (.slice none 0 0)).toArray 33 (0, 0)) := by rw [he_bm]; exact hB0
    rw [← he_bm]
    have hT := hc5.at hT (fun e => e)
    have hF := hc5.at hF (fun e => e)
    have hR := hc5.at hR (fun e => e)
    have hC := hC.trans hc5
    refine WL.eff rfl (OP.storeAgg inf33.choose_spec.1 (by rw [inf33.choose_spec.2]; rfl) rfl rfl (m_all _ _ _ _ _ _ _) hBm rfl ?_)
    intro w6 hc6 hs6 hBm
    have hT := hc6.at hT (fun e => by omega)
    have hF := hc6.at hF (fun e => by omega)
    have hR := hc6.at hR (fun e => by omega)
    have hC := hC.then hc6 (fun k hk e => by omega)
    have hc46 : Chg (fun _ => False) w4 w6 := hc5.then hc6 (fun k hk e => by omega)
    refine WL.op (by decide) (R.assign rfl) ?_  -- trans.go:35 t15 := (Op.assign t20)
    refine WL.next ?_
    refine CW.seq ?_
    refine CW.rseq ?_  -- region 2
    refine WL.op (by decide) (R.move rfl) ?_  -- trans.go:36 t21 := (Op.move t15)
    refine WL.op (by decide) (R.neq rfl rfl (c := false) (by decide)) ?_
    refine WL.op (by decide) (R.move rfl) ?_  -- trans.go:36 t23 := (Op.move t22)
    refine WL.gop (by decide) rfl rfl rfl (R.move rfl) ?_  -- trans.go:36 t24 := (Op.move t1) [guard 2 false]
    refine WL.gop (by decide) rfl rfl rfl (FA29_1 rfl) ?_  -- trans.go:36 t25 := (Op.fieldAddr 29 t6 1) [guard 2 false]
    refine WL.gop (by decide) rfl rfl rfl (R.load Tryd.underlying3 rfl rfl (cell_at hT rfl)) ?_  -- trans.go:36 t26 := (Op.load 3 t25) [guard 2 false]
    refine WL.gsplit _ (by decide) rfl rfl rfl (R.neqD rfl rfl) (fun h1 => ?_) (fun h1 => ?_)  -- trans.go:36 t27 := (Op.binOp BinOp.neq 3 t24 t26 3) [guard 2 false]
    · skip
      refine WL.op (by decide) (R.pickF rfl rfl) ?_  -- trans.go:36 t28 := (Op.pick t23 c(Value.bool true) t27)
      refine WL.op (by decide) (R.move rfl) ?_  -- trans.go:36 t29 := (Op.move t28)
      refine WL.pass (by decide) rfl rfl rfl ?_  -- trans.go:36 t30 := (Op.move t2) [guard 8 false]
      refine WL.pass (by decide) rfl rfl rfl ?_  -- trans.go:36 t31 := (Op.fieldAddr 29 t6 2) [guard 8 false]
      refine WL.pass (by decide) rfl rfl rfl ?_  -- trans.go:36 t32 := (Op.load 3 t31) [guard 8 false]
      refine WL.pass (by decide) rfl rfl rfl ?_  -- trans.go:36 t33 := (Op.binOp BinOp.neq 3 t30 t32 3) [guard 8 false]
      refine WL.op (by decide) (R.pickT rfl rfl) ?_  -- trans.go:36 t34 := (Op.pick t29 c(Value.bool true) t33)
      refine WL.op (by decide) (R.move rfl) ?_  -- trans.go:36 t35 := (Op.move t34)
      refine WL.pass (by decide) rfl rfl rfl ?_  -- trans.go:36 t36 := (Op.move t4) [guard 14 false]
      refine WL.pass (by decide) rfl rfl rfl ?_  -- trans.go:36 t37 := (Op.fieldAddr 29 t6 5) [guard 14 false]
      refine WL.pass (by decide) rfl rfl rfl ?_  -- trans.go:36 t38 := (Op.load 3 t37) [guard 14 false]
      refine WL.pass (by decide) rfl rfl rfl ?_  -- trans.go:36 t39 := (Op.binOp BinOp.neq 3 t36 t38 3) [guard 14 false]
      refine WL.op (by decide) (R.pickT rfl rfl) ?_  -- trans.go:36 t40 := (Op.pick t35 c(Value.bool true) t39)
      refine WL.op (by decide) (R.move rfl) ?_  -- trans.go:36 t41 := (Op.move t40)
      refine WL.pass (by decide) rfl rfl rfl ?_  -- trans.go:36 t42 := (Op.fieldAddr 29 t6 7) [guard 20 false]
      refine WL.pass (by decide) rfl rfl rfl ?_  -- trans.go:36 t43 := (Op.load 4 t42) [guard 20 false]
      refine WL.pass (by decide) rfl rfl rfl ?_  -- trans.go:36 t44 := (Op.unOp UnOp.not 4 t43) [guard 20 false]
      refine WL.pass (by decide) rfl rfl rfl ?_  -- trans.go:36 t45 := (Op.move t44) [guard 20 false]
      refine WL.passU (by decide) rfl rfl ?_  -- trans.go:36 t46 := (Op.load 27 t9) [guard 24 true]
      refine WL.passU (by decide) rfl rfl ?_  -- trans.go:36 t47 := (Op.fieldAddr 29 t6 3) [guard 24 true]
      refine WL.passU (by decide) rfl rfl ?_  -- trans.go:36 t48 := (Op.load 27 t47) [guard 24 true]
      refine WL.passU (by decide) rfl rfl ?_  -- trans.go:36 t49 := (Op.binOp BinOp.neq 27 t46 t48 27) [guard 24 true]
      refine WL.pass (by decide) rfl rfl rfl ?_  -- trans.go:36 t50 := (Op.pick t45 t49 c(Value.bool false)) [guard 20 false]
      refine WL.op (by decide) (R.pickT rfl rfl) ?_  -- trans.go:36 t51 := (Op.pick t41 c(Value.bool true) t50)
      refine WL.next ?_
      refine CW.condT rfl ?_
      refine CW.rseq ?_  -- region 3
      refine WL.op (by decide) (R.build (parts := []) (vals := []) rfl (fun w => build33_0 w)) ?_  -- trans.go:37 t52 := (Op.build 33 [])
      refine WL.eff rfl (OP.storeAgg inf33.choose_spec.1 (by rw [inf33.choose_spec.2]; rfl) rfl rfl (m_all _ _ _ _ _ _ _) hR rfl ?_)
      intro w7 hc7 hs7 hR
      have hC := hC.then hc7 (fun k hk e => by omega)
      refine WL.op (by decide) (R.assign rfl) ?_  -- trans.go:37 t13 := (Op.assign c(Value.bool false))
      refine WL.next ?_
      refine CW.ret ?_
      refine EW.thenRet ?_
      exact EW.retCT (.inl rfl) rfl rfl rfl (cs := Msg.cells ⟨0, false, false, false, 0, [], 0, [], []⟩ (.slice none 0 0) (.slice none 0 0)) Tryd.underlying33 rfl sz33 (fun j u hj => cell_at hR (by rw [List.getElem?_toArray]; exact hj)) ⟨hC, by show MatchRes _ _ _ _ _ _ (some M) _ _; unfold MatchRes; simp only; rw [if_neg (by unfold passT; simp [*])]; rfl⟩
    · skip
      refine WL.op (by decide) (R.pickF rfl rfl) ?_  -- trans.go:36 t28 := (Op.pick t23 c(Value.bool true) t27)
      refine WL.op (by decide) (R.move rfl) ?_  -- trans.go:36 t29 := (Op.move t28)
      refine WL.gop (by decide) rfl rfl rfl (R.move rfl) ?_  -- trans.go:36 t30 := (Op.move t2) [guard 8 false]
      refine WL.gop (by decide) rfl rfl rfl (FA29_2 rfl) ?_  -- trans.go:36 t31 := (Op.fieldAddr 29 t6 2) [guard 8 false]
      refine WL.gop (by decide) rfl rfl rfl (R.load Tryd.underlying3 rfl rfl (cell_at hT rfl)) ?_  -- trans.go:36 t32 := (Op.load 3 t31) [guard 8 false]
      refine WL.gsplit _ (by decide) rfl rfl rfl (R.neqD rfl rfl) (fun h2 => ?_) (fun h2 => ?_)  -- trans.go:36 t33 := (Op.binOp BinOp.neq 3 t30 t32 3) [guard 8 false]
      · skip
        refine WL.op (by decide) (R.pickF rfl rfl) ?_  -- trans.go:36 t34 := (Op.pick t29 c(Value.bool true) t33)
        refine WL.op (by decide) (R.move rfl) ?_  -- trans.go:36 t35 := (Op.move t34)
        refine WL.pass (by decide) rfl rfl rfl ?_  -- trans.go:36 t36 := (Op.move t4) [guard 14 false]
        refine WL.pass (by decide) rfl rfl rfl ?_  -- trans.go:36 t37 := (Op.fieldAddr 29 t6 5) [guard 14 false]
        refine WL.pass (by decide) rfl rfl rfl ?_  -- trans.go:36 t38 := (Op.load 3 t37) [guard 14 false]
        refine WL.pass (by decide) rfl rfl rfl ?_  -- trans.go:36 t39 := (Op.binOp BinOp.neq 3 t36 t38 3) [guard 14 false]
        refine WL.op (by decide) (R.pickT rfl rfl) ?_  -- trans.go:36 t40 := (Op.pick t35 c(Value.bool true) t39)
        refine WL.op (by decide) (R.move rfl) ?_  -- trans.go:36 t41 := (Op.move t40)
        refine WL.pass (by decide) rfl rfl rfl ?_  -- trans.go:36 t42 := (Op.fieldAddr 29 t6 7) [guard 20 false]
        refine WL.pass (by decide) rfl rfl rfl ?_  -- trans.go:36 t43 := (Op.load 4 t42) [guard 20 false]
        refine WL.pass (by decide) rfl rfl rfl ?_  -- trans.go:36 t44 := (Op.unOp UnOp.not 4 t43) [guard 20 false]
        refine WL.pass (by decide) rfl rfl rfl ?_  -- trans.go:36 t45 := (Op.move t44) [guard 20 false]
        refine WL.passU (by decide) rfl rfl ?_  -- trans.go:36 t46 := (Op.load 27 t9) [guard 24 true]
        refine WL.passU (by decide) rfl rfl ?_  -- trans.go:36 t47 := (Op.fieldAddr 29 t6 3) [guard 24 true]
        refine WL.passU (by decide) rfl rfl ?_  -- trans.go:36 t48 := (Op.load 27 t47) [guard 24 true]
        refine WL.passU (by decide) rfl rfl ?_  -- trans.go:36 t49 := (Op.binOp BinOp.neq 27 t46 t48 27) [guard 24 true]
        refine WL.pass (by decide) rfl rfl rfl ?_  -- trans.go:36 t50 := (Op.pick t45 t49 c(Value.bool false)) [guard 20 false]
        refine WL.op (by decide) (R.pickT rfl rfl) ?_  -- trans.go:36 t51 := (Op.pick t41 c(Value.bool true) t50)
        refine WL.next ?_
        refine CW.condT rfl ?_
        refine CW.rseq ?_  -- region 3
        refine WL.op (by decide) (R.build (parts := []) (vals := []) rfl (fun w => build33_0 w)) ?_  -- trans.go:37 t52 := (Op.build 33 [])
        refine WL.eff rfl (OP.storeAgg inf33.choose_spec.1 (by rw [inf33.choose_spec.2]; rfl) rfl rfl (m_all _ _ _ _ _ _ _) hR rfl ?_)
        intro w7 hc7 hs7 hR
        have hC := hC.then hc7 (fun k hk e => by omega)
        refine WL.op (by decide) (R.assign rfl) ?_  -- trans.go:37 t13 := (Op.assign c(Value.bool false))
        refine WL.next ?_
        refine CW.ret ?_
        refine EW.thenRet ?_
        exact EW.retCT (.inl rfl) rfl rfl rfl (cs := Msg.cells ⟨0, false, false, false, 0, [], 0, [], []⟩ (.slice none 0 0) (.slice none 0 0)) Tryd.underlying33 rfl sz33 (fun j u hj => cell_at hR (by rw [List.getElem?_toArray]; exact hj)) ⟨hC, by show MatchRes _ _ _ _ _ _ (some M) _ _; unfold MatchRes; simp only; rw [if_neg (by unfold passT; simp [*])]; rfl⟩
      · skip
        refine WL.op (by decide) (R.pickF rfl rfl) ?_  -- trans.go:36 t34 := (Op.pick t29 c(Value.bool true) t33)
        refine WL.op (by decide) (R.move rfl) ?_  -- trans.go:36 t35 := (Op.move t34)
        refine WL.gop (by decide) rfl rfl rfl (R.move rfl) ?_  -- trans.go:36 t36 := (Op.move t4) [guard 14 false]
        refine WL.gop (by decide) rfl rfl rfl (FA29_5 rfl) ?_  -- trans.go:36 t37 := (Op.fieldAddr 29 t6 5) [guard 14 false]
        refine WL.gop (by decide) rfl rfl rfl (R.load Tryd.underlying3 rfl rfl (cell_at hT (Tr.at21 h16))) ?_  -- trans.go:36 t38 := (Op.load 3 t37) [guard 14 false]
        refine WL.gsplit _ (by decide) rfl rfl rfl (R.neqD rfl rfl) (fun h3 => ?_) (fun h3 => ?_)  -- trans.go:36 t39 := (Op.binOp BinOp.neq 3 t36 t38 3) [guard 14 false]
        · skip
          refine WL.op (by decide) (R.pickF rfl rfl) ?_  -- trans.go:36 t40 := (Op.pick t35 c(Value.bool true) t39)
          refine WL.op (by decide) (R.move rfl) ?_  -- trans.go:36 t41 := (Op.move t40)
          refine WL.pass (by decide) rfl rfl rfl ?_  -- trans.go:36 t42 := (Op.fieldAddr 29 t6 7) [guard 20 false]
          refine WL.pass (by decide) rfl rfl rfl ?_  -- trans.go:36 t43 := (Op.load 4 t42) [guard 20 false]
          refine WL.pass (by decide) rfl rfl rfl ?_  -- trans.go:36 t44 := (Op.unOp UnOp.not 4 t43) [guard 20 false]
          refine WL.pass (by decide) rfl rfl rfl ?_  -- trans.go:36 t45 := (Op.move t44) [guard 20 false]
          refine WL.passU (by decide) rfl rfl ?_  -- trans.go:36 t46 := (Op.load 27 t9) [guard 24 true]
          refine WL.passU (by decide) rfl rfl ?_  -- trans.go:36 t47 := (Op.fieldAddr 29 t6 3) [guard 24 true]
          refine WL.passU (by decide) rfl rfl ?_  -- trans.go:36 t48 := (Op.load 27 t47) [guard 24 true]
          refine WL.passU (by decide) rfl rfl ?_  -- trans.go:36 t49 := (Op.binOp BinOp.neq 27 t46 t48 27) [guard 24 true]
          refine WL.pass (by decide) rfl rfl rfl ?_  -- trans.go:36 t50 := (Op.pick t45 t49 c(Value.bool false)) [guard 20 false]
          refine WL.op (by decide) (R.pickT rfl rfl) ?_  -- trans.go:36 t51 := (Op.pick t41 c(Value.bool true) t50)
          refine WL.next ?_
          refine CW.condT rfl ?_
          refine CW.rseq ?_  -- region 3
          refine WL.op (by decide) (R.build (parts := []) (vals := []) rfl (fun w => build33_0 w)) ?_  -- trans.go:37 t52 := (Op.build 33 [])
          refine WL.eff rfl (OP.storeAgg inf33.choose_spec.1 (by rw [inf33.choose_spec.2]; rfl) rfl rfl (m_all _ _ _ _ _ _ _) hR rfl ?_)
          intro w7 hc7 hs7 hR
          have hC := hC.then hc7 (fun k hk e => by omega)
          refine WL.op (by decide) (R.assign rfl) ?_  -- trans.go:37 t13 := (Op.assign c(Value.bool false))
          refine WL.next ?_
          refine CW.ret ?_
          refine EW.thenRet ?_
          exact EW.retCT (.inl rfl) rfl rfl rfl (cs := Msg.cells ⟨0, false, false, false, 0, [], 0, [], []⟩ (.slice none 0 0) (.slice none 0 0)) Tryd.underlying33 rfl sz33 (fun j u hj => cell_at hR (by rw [List.getElem?_toArray]; exact hj)) ⟨hC, by show MatchRes _ _ _ _ _ _ (some M) _ _; unfold MatchRes; simp only; rw [if_neg (by unfold passT; simp [*])]; rfl⟩
        · skip
          refine WL.op (by decide) (R.pickF rfl rfl) ?_  -- trans.go:36 t40 := (Op.pick t35 c(Value.bool true) t39)
          refine WL.op (by decide) (R.move rfl) ?_  -- trans.go:36 t41 := (Op.move t40)
          refine WL.gop (by decide) rfl rfl rfl (FA29_7 rfl) ?_  -- trans.go:36 t42 := (Op.fieldAddr 29 t6 7) [guard 20 false]
          cases hgr : t.group
          · skip
            refine WL.gop (by decide) rfl rfl rfl (R.load (v := .bool false) Tryd.underlying4 rfl rfl (cell_at hT ((Tr.at23 h16).trans (by rw [hgr])))) ?_
            refine WL.gop (by decide) rfl rfl rfl (R.not rfl) ?_  -- trans.go:36 t44 := (Op.unOp UnOp.not 4 t43) [guard 20 false]
            refine WL.gop (by decide) rfl rfl rfl (R.move rfl) ?_  -- trans.go:36 t45 := (Op.move t44) [guard 20 false]
            refine WL.gop (by decide) rfl rfl rfl (R.loadAgg1 (cs := frm.map u8v) Tryd.underlying27 rfl (by rw [List.length_map, hf16]; exact sz27) rfl (fun j u hj => cell_at hF (by rw [Nat.zero_add, List.getElem?_toArray]; exact hj))) ?_  -- trans.go:36 t46 := (Op.load 27 t9) [guard 24 true]
            refine WL.gop (by decide) rfl rfl rfl (FA29_3 rfl) ?_  -- trans.go:36 t47 := (Op.fieldAddr 29 t6 3) [guard 24 true]
            refine WL.gop (by decide) rfl rfl rfl (R.loadAgg1 (cs := t.to.map u8v) Tryd.underlying27 rfl (by rw [List.length_map, h16]; exact sz27) rfl (fun j u hj => cell_at hT (by rw [Nat.zero_add]; exact Tr.atTo hj))) ?_  -- trans.go:36 t48 := (Op.load 27 t47) [guard 24 true]
            by_cases hto : frm = t.to
            · skip
              refine WL.gop (by decide) rfl rfl rfl (R.neq27 (c := false) (a := frm) (b := t.to) hf16 h16 rfl rfl (by simp [hto])) ?_
              refine WL.gop (by decide) rfl rfl rfl (R.pickT rfl rfl) ?_  -- trans.go:36 t50 := (Op.pick t45 t49 c(Value.bool false)) [guard 20 false]
              refine WL.op (by decide) (R.pickF rfl rfl) ?_  -- trans.go:36 t51 := (Op.pick t41 c(Value.bool true) t50)
              refine WL.next ?_
              refine CW.condF rfl ?_
              refine CW.skip ?_
              refine EW.next ?_
              refine CW.seq ?_
              rcases ans4 (a := M.reply) (p := M.id = t.id) (q := M.qname = t.qname ∧ M.qtype = t.qtype) with h1 | ⟨h1, h2⟩ | ⟨h1, h2, h3⟩ | ⟨h1, h2, h3⟩
              · skip
                refine CW.draw (fun w0 => w0.heap[bm]? = some (.cells (M.cells (.slice Aa M.ans.length ca) (.slice Ab M.auth.length cb)).toArray 33 (0, 0)) ∧ w0.heap[bt]? = some (.cells t.cells.toArray 29 (0, 0))) (by kernel_rfl) ?_
                refine AH.take 0 rfl (by kernel_rfl) (by kernel_rfl) (by kernel_rfl) (fun _ _ _ _ h => h) ⟨hBm, hT⟩ (by decide) (fun w hS => R.loadAgg1 (cs := M.cells (.slice Aa M.ans.length ca) (.slice Ab M.auth.length cb)) Tryd.underlying33 rfl sz33 rfl (fun j u hj => cell_at hS.1 (by rw [Nat.zero_add, List.getElem?_toArray]; exact hj))) ?_  -- trans.go:39 t53 := (Op.load 33 t14)
                refine AH.take 1 rfl (by kernel_rfl) (by kernel_rfl) (by kernel_rfl) (fun _ _ _ _ h => h) ⟨hBm, hT⟩ (by decide) (fun w hS => FA33_1 rfl) ?_  -- trans.go:39 t54 := (Op.fieldAddr 33 t14 1)
                refine AH.take 2 rfl (by kernel_rfl) (by kernel_rfl) (by kernel_rfl) (fun _ _ _ _ h => h) ⟨hBm, hT⟩ (by decide) (fun w hS => R.load (v := .bool false) Tryd.underlying4 rfl rfl (cell_at hS.1 (show _ = some (Value.bool false) from congrArg (fun b => some (Value.bool b)) h1))) ?_  -- trans.go:39 t55 := (Op.load 4 t54)
                refine AH.take 3 rfl (by kernel_rfl) (by kernel_rfl) (by kernel_rfl) (fun _ _ _ _ h => h) ⟨hBm, hT⟩ (by decide) (fun w hS => R.move rfl) ?_  -- trans.go:39 t56 := (Op.move t55)
                refine AH.pass 4 rfl (by kernel_rfl) (by kernel_rfl) (by kernel_rfl) (fun _ _ _ _ h => h) ⟨hBm, hT⟩ (by decide) rfl rfl rfl ?_  -- trans.go:39 t57 := (Op.fieldAddr 33 t14 0) [guard 3 true]
                refine AH.pass 5 rfl (by kernel_rfl) (by kernel_rfl) (by kernel_rfl) (fun _ _ _ _ h => h) ⟨hBm, hT⟩ (by decide) rfl rfl rfl ?_  -- trans.go:39 t58 := (Op.load 3 t57) [guard 3 true]
                refine AH.pass 6 rfl (by kernel_rfl) (by kernel_rfl) (by kernel_rfl) (fun _ _ _ _ h => h) ⟨hBm, hT⟩ (by decide) rfl rfl rfl ?_  -- trans.go:39 t59 := (Op.fieldAddr 29 t6 4) [guard 3 true]
                refine AH.pass 7 rfl (by kernel_rfl) (by kernel_rfl) (by kernel_rfl) (fun _ _ _ _ h => h) ⟨hBm, hT⟩ (by decide) rfl rfl rfl ?_  -- trans.go:39 t60 := (Op.load 3 t59) [guard 3 true]
                refine AH.pass 8 rfl (by kernel_rfl) (by kernel_rfl) (by kernel_rfl) (fun _ _ _ _ h => h) ⟨hBm, hT⟩ (by decide) rfl rfl rfl ?_  -- trans.go:39 t61 := (Op.binOp BinOp.eql 3 t58 t60 3) [guard 3 true]
                refine AH.take 9 rfl (by kernel_rfl) (by kernel_rfl) (by kernel_rfl) (fun _ _ _ _ h => h) ⟨hBm, hT⟩ (by decide) (fun w hS => R.pickF rfl rfl) ?_  -- trans.go:39 t62 := (Op.pick t56 t61 c(Value.bool false))
                refine AH.take 10 rfl (by kernel_rfl) (by kernel_rfl) (by kernel_rfl) (fun _ _ _ _ h => h) ⟨hBm, hT⟩ (by decide) (fun w hS => R.move rfl) ?_  -- trans.go:39 t63 := (Op.move t62)
                refine AH.pass 11 rfl (by kernel_rfl) (by kernel_rfl) (by kernel_rfl) (fun _ _ _ _ h => h) ⟨hBm, hT⟩ (by decide) rfl rfl rfl ?_  -- trans.go:39 t64 := (Op.fieldAddr 33 t14 5) [guard 10 true]
                refine AH.pass 12 rfl (by kernel_rfl) (by kernel_rfl) (by kernel_rfl) (fun _ _ _ _ h => h) ⟨hBm, hT⟩ (by decide) rfl rfl rfl ?_  -- trans.go:39 t65 := (Op.load 25 t64) [guard 10 true]
                refine AH.pass 13 rfl (by kernel_rfl) (by kernel_rfl) (by kernel_rfl) (fun _ _ _ _ h => h) ⟨hBm, hT⟩ (by decide) rfl rfl rfl ?_  -- trans.go:39 t66 := (Op.fieldAddr 29 t6 0) [guard 10 true]
                refine AH.pass 14 rfl (by kernel_rfl) (by kernel_rfl) (by kernel_rfl) (fun _ _ _ _ h => h) ⟨hBm, hT⟩ (by decide) rfl rfl rfl ?_  -- trans.go:39 t67 := (Op.load 25 t66) [guard 10 true]
                refine AH.pass 15 rfl (by kernel_rfl) (by kernel_rfl) (by kernel_rfl) (fun _ _ _ _ h => h) ⟨hBm, hT⟩ (by decide) rfl rfl rfl ?_  -- trans.go:39 t68 := (Op.binOp BinOp.eql 25 t65 t67 25) [guard 10 true]
                refine AH.take 16 rfl (by kernel_rfl) (by kernel_rfl) (by kernel_rfl) (fun _ _ _ _ h => h) ⟨hBm, hT⟩ (by decide) (fun w hS => R.pickF rfl rfl) ?_  -- trans.go:39 t69 := (Op.pick t63 t68 c(Value.bool false))
                refine AH.eff 17 (by kernel_rfl) rfl rfl (OP.storeAgg inf33.choose_spec.1 (by rw [inf33.choose_spec.2]; rfl) rfl rfl (m_all _ _ _ _ _ _ _) hR rfl ?_)
                intro w7 hc7 hs7 hR
                have hC := (hC.trans (Chg.drew _ _)).then hc7 (fun k hk e => by omega)
                have hC2 : Chg (fun k => k = br) w4 w7 := ((hc46.trans (Chg.drew _ _)).mono (fun _ _ e => e.elim)).then hc7 (fun k hk e => e)
                have hS2 := (show _ ∧ _ from ⟨hc7.at hBm (fun e => by omega), hc7.at hT (fun e => by omega)⟩)
                refine ⟨hS2, ?_⟩
                refine AH.take 18 rfl (by kernel_rfl) (by kernel_rfl) (by kernel_rfl) (fun _ _ _ _ h => h) hS2 (by decide) (fun w hS => R.assign rfl) ?_  -- trans.go:39 t13 := (Op.assign t69)
                refine AH.done (by kernel_rfl) ?_
                have hans : ansT t M = false := by unfold ansT; simp [h1]
                refine EW.next ?_
                refine CW.ret ?_
                exact EW.retCT (.inl rfl) rfl rfl rfl (cs := M.cells (.slice Aa M.ans.length ca) (.slice Ab M.auth.length cb)) Tryd.underlying33 rfl sz33 (fun j u hj => cell_at hR (by rw [List.getElem?_toArray]; exact hj)) ⟨hC, by show MatchRes _ _ _ _ _ _ (some M) _ _; unfold MatchRes; simp only; rw [if_pos (by unfold passT; rw [decide_eq_true (show link = t.link by omega), decide_eq_true (show gen = t.gen by omega), decide_eq_true (show port = t.port by omega)]; simp [*])]; exact ⟨_, by rw [show ansT t M = _ from hans], _, _, rfl, hva.kept hC2 (fun k hk e => by have := hfa k hk; omega), hvb.kept hC2 (fun k hk e => by have := hfb k hk; omega), fun k hk => by have := hfa k hk; have := hc13.size; omega, fun k hk => by have := hfb k hk; have := hc13.size; omega⟩⟩
              · skip
                refine CW.draw (fun w0 => w0.heap[bm]? = some (.cells (M.cells (.slice Aa M.ans.length ca) (.slice Ab M.auth.length cb)).toArray 33 (0, 0)) ∧ w0.heap[bt]? = some (.cells t.cells.toArray 29 (0, 0))) (by kernel_rfl) ?_
                refine AH.take 0 rfl (by kernel_rfl) (by kernel_rfl) (by kernel_rfl) (fun _ _ _ _ h => h) ⟨hBm, hT⟩ (by decide) (fun w hS => R.loadAgg1 (cs := M.cells (.slice Aa M.ans.length ca) (.slice Ab M.auth.length cb)) Tryd.underlying33 rfl sz33 rfl (fun j u hj => cell_at hS.1 (by rw [Nat.zero_add, List.getElem?_toArray]; exact hj))) ?_  -- trans.go:39 t53 := (Op.load 33 t14)
                refine AH.take 1 rfl (by kernel_rfl) (by kernel_rfl) (by kernel_rfl) (fun _ _ _ _ h => h) ⟨hBm, hT⟩ (by decide) (fun w hS => FA33_1 rfl) ?_  -- trans.go:39 t54 := (Op.fieldAddr 33 t14 1)
                refine AH.take 2 rfl (by kernel_rfl) (by kernel_rfl) (by kernel_rfl) (fun _ _ _ _ h => h) ⟨hBm, hT⟩ (by decide) (fun w hS => R.load (v := .bool true) Tryd.underlying4 rfl rfl (cell_at hS.1 (show _ = some (Value.bool true) from congrArg (fun b => some (Value.bool b)) h1))) ?_  -- trans.go:39 t55 := (Op.load 4 t54)
                refine AH.take 3 rfl (by kernel_rfl) (by kernel_rfl) (by kernel_rfl) (fun _ _ _ _ h => h) ⟨hBm, hT⟩ (by decide) (fun w hS => R.move rfl) ?_  -- trans.go:39 t56 := (Op.move t55)
                refine AH.takeG 4 rfl (by kernel_rfl) (by kernel_rfl) (by kernel_rfl) (fun _ _ _ _ h => h) ⟨hBm, hT⟩ (by decide) rfl rfl rfl (fun w hS => FA33_0 rfl) ?_  -- trans.go:39 t57 := (Op.fieldAddr 33 t14 0) [guard 3 true]
                refine AH.takeG 5 rfl (by kernel_rfl) (by kernel_rfl) (by kernel_rfl) (fun _ _ _ _ h => h) ⟨hBm, hT⟩ (by decide) rfl rfl rfl (fun w hS => R.load Tryd.underlying3 rfl rfl (cell_at hS.1 rfl)) ?_  -- trans.go:39 t58 := (Op.load 3 t57) [guard 3 true]
                refine AH.takeG 6 rfl (by kernel_rfl) (by kernel_rfl) (by kernel_rfl) (fun _ _ _ _ h => h) ⟨hBm, hT⟩ (by decide) rfl rfl rfl (fun w hS => FA29_4 rfl) ?_  -- trans.go:39 t59 := (Op.fieldAddr 29 t6 4) [guard 3 true]
                refine AH.takeG 7 rfl (by kernel_rfl) (by kernel_rfl) (by kernel_rfl) (fun _ _ _ _ h => h) ⟨hBm, hT⟩ (by decide) rfl rfl rfl (fun w hS => R.load Tryd.underlying3 rfl rfl (cell_at hS.2 (Tr.at20 h16))) ?_  -- trans.go:39 t60 := (Op.load 3 t59) [guard 3 true]
                refine AH.takeG 8 rfl (by kernel_rfl) (by kernel_rfl) (by kernel_rfl) (fun _ _ _ _ h => h) ⟨hBm, hT⟩ (by decide) rfl rfl rfl (fun w hS => R.eql rfl rfl (decide_eq_false h2)) ?_  -- trans.go:39 t61 := (Op.binOp BinOp.eql 3 t58 t60 3) [guard 3 true]
                refine AH.take 9 rfl (by kernel_rfl) (by kernel_rfl) (by kernel_rfl) (fun _ _ _ _ h => h) ⟨hBm, hT⟩ (by decide) (fun w hS => R.pickT rfl rfl) ?_  -- trans.go:39 t62 := (Op.pick t56 t61 c(Value.bool false))
                refine AH.take 10 rfl (by kernel_rfl) (by kernel_rfl) (by kernel_rfl) (fun _ _ _ _ h => h) ⟨hBm, hT⟩ (by decide) (fun w hS => R.move rfl) ?_  -- trans.go:39 t63 := (Op.move t62)
                refine AH.pass 11 rfl (by kernel_rfl) (by kernel_rfl) (by kernel_rfl) (fun _ _ _ _ h => h) ⟨hBm, hT⟩ (by decide) rfl rfl rfl ?_  -- trans.go:39 t64 := (Op.fieldAddr 33 t14 5) [guard 10 true]
                refine AH.pass 12 rfl (by kernel_rfl) (by kernel_rfl) (by kernel_rfl) (fun _ _ _ _ h => h) ⟨hBm, hT⟩ (by decide) rfl rfl rfl ?_  -- trans.go:39 t65 := (Op.load 25 t64) [guard 10 true]
                refine AH.pass 13 rfl (by kernel_rfl) (by kernel_rfl) (by kernel_rfl) (fun _ _ _ _ h => h) ⟨hBm, hT⟩ (by decide) rfl rfl rfl ?_  -- trans.go:39 t66 := (Op.fieldAddr 29 t6 0) [guard 10 true]
                refine AH.pass 14 rfl (by kernel_rfl) (by kernel_rfl) (by kernel_rfl) (fun _ _ _ _ h => h) ⟨hBm, hT⟩ (by decide) rfl rfl rfl ?_  -- trans.go:39 t67 := (Op.load 25 t66) [guard 10 true]
                refine AH.pass 15 rfl (by kernel_rfl) (by kernel_rfl) (by kernel_rfl) (fun _ _ _ _ h => h) ⟨hBm, hT⟩ (by decide) rfl rfl rfl ?_  -- trans.go:39 t68 := (Op.binOp BinOp.eql 25 t65 t67 25) [guard 10 true]
                refine AH.take 16 rfl (by kernel_rfl) (by kernel_rfl) (by kernel_rfl) (fun _ _ _ _ h => h) ⟨hBm, hT⟩ (by decide) (fun w hS => R.pickF rfl rfl) ?_  -- trans.go:39 t69 := (Op.pick t63 t68 c(Value.bool false))
                refine AH.eff 17 (by kernel_rfl) rfl rfl (OP.storeAgg inf33.choose_spec.1 (by rw [inf33.choose_spec.2]; rfl) rfl rfl (m_all _ _ _ _ _ _ _) hR rfl ?_)
                intro w7 hc7 hs7 hR
                have hC := (hC.trans (Chg.drew _ _)).then hc7 (fun k hk e => by omega)
                have hC2 : Chg (fun k => k = br) w4 w7 := ((hc46.trans (Chg.drew _ _)).mono (fun _ _ e => e.elim)).then hc7 (fun k hk e => e)
                have hS2 := (show _ ∧ _ from ⟨hc7.at hBm (fun e => by omega), hc7.at hT (fun e => by omega)⟩)
                refine ⟨hS2, ?_⟩
                refine AH.take 18 rfl (by kernel_rfl) (by kernel_rfl) (by kernel_rfl) (fun _ _ _ _ h => h) hS2 (by decide) (fun w hS => R.assign rfl) ?_  -- trans.go:39 t13 := (Op.assign t69)
                refine AH.done (by kernel_rfl) ?_
                have hans : ansT t M = false := by unfold ansT; simp [h2]
                refine EW.next ?_
                refine CW.ret ?_
                exact EW.retCT (.inl rfl) rfl rfl rfl (cs := M.cells (.slice Aa M.ans.length ca) (.slice Ab M.auth.length cb)) Tryd.underlying33 rfl sz33 (fun j u hj => cell_at hR (by rw [List.getElem?_toArray]; exact hj)) ⟨hC, by show MatchRes _ _ _ _ _ _ (some M) _ _; unfold MatchRes; simp only; rw [if_pos (by unfold passT; rw [decide_eq_true (show link = t.link by omega), decide_eq_true (show gen = t.gen by omega), decide_eq_true (show port = t.port by omega)]; simp [*])]; exact ⟨_, by rw [show ansT t M = _ from hans], _, _, rfl, hva.kept hC2 (fun k hk e => by have := hfa k hk; omega), hvb.kept hC2 (fun k hk e => by have := hfb k hk; omega), fun k hk => by have := hfa k hk; have := hc13.size; omega, fun k hk => by have := hfb k hk; have := hc13.size; omega⟩⟩
              · skip
                refine CW.draw (fun w0 => w0.heap[bm]? = some (.cells (M.cells (.slice Aa M.ans.length ca) (.slice Ab M.auth.length cb)).toArray 33 (0, 0)) ∧ w0.heap[bt]? = some (.cells t.cells.toArray 29 (0, 0))) (by kernel_rfl) ?_
                refine AH.take 0 rfl (by kernel_rfl) (by kernel_rfl) (by kernel_rfl) (fun _ _ _ _ h => h) ⟨hBm, hT⟩ (by decide) (fun w hS => R.loadAgg1 (cs := M.cells (.slice Aa M.ans.length ca) (.slice Ab M.auth.length cb)) Tryd.underlying33 rfl sz33 rfl (fun j u hj => cell_at hS.1 (by rw [Nat.zero_add, List.getElem?_toArray]; exact hj))) ?_  -- trans.go:39 t53 := (Op.load 33 t14)
                refine AH.take 1 rfl (by kernel_rfl) (by kernel_rfl) (by kernel_rfl) (fun _ _ _ _ h => h) ⟨hBm, hT⟩ (by decide) (fun w hS => FA33_1 rfl) ?_  -- trans.go:39 t54 := (Op.fieldAddr 33 t14 1)
                refine AH.take 2 rfl (by kernel_rfl) (by kernel_rfl) (by kernel_rfl) (fun _ _ _ _ h => h) ⟨hBm, hT⟩ (by decide) (fun w hS => R.load (v := .bool true) Tryd.underlying4 rfl rfl (cell_at hS.1 (show _ = some (Value.bool true) from congrArg (fun b => some (Value.bool b)) h1))) ?_  -- trans.go:39 t55 := (Op.load 4 t54)
                refine AH.take 3 rfl (by kernel_rfl) (by kernel_rfl) (by kernel_rfl) (fun _ _ _ _ h => h) ⟨hBm, hT⟩ (by decide) (fun w hS => R.move rfl) ?_  -- trans.go:39 t56 := (Op.move t55)
                refine AH.takeG 4 rfl (by kernel_rfl) (by kernel_rfl) (by kernel_rfl) (fun _ _ _ _ h => h) ⟨hBm, hT⟩ (by decide) rfl rfl rfl (fun w hS => FA33_0 rfl) ?_  -- trans.go:39 t57 := (Op.fieldAddr 33 t14 0) [guard 3 true]
                refine AH.takeG 5 rfl (by kernel_rfl) (by kernel_rfl) (by kernel_rfl) (fun _ _ _ _ h => h) ⟨hBm, hT⟩ (by decide) rfl rfl rfl (fun w hS => R.load Tryd.underlying3 rfl rfl (cell_at hS.1 rfl)) ?_  -- trans.go:39 t58 := (Op.load 3 t57) [guard 3 true]
                refine AH.takeG 6 rfl (by kernel_rfl) (by kernel_rfl) (by kernel_rfl) (fun _ _ _ _ h => h) ⟨hBm, hT⟩ (by decide) rfl rfl rfl (fun w hS => FA29_4 rfl) ?_  -- trans.go:39 t59 := (Op.fieldAddr 29 t6 4) [guard 3 true]
                refine AH.takeG 7 rfl (by kernel_rfl) (by kernel_rfl) (by kernel_rfl) (fun _ _ _ _ h => h) ⟨hBm, hT⟩ (by decide) rfl rfl rfl (fun w hS => R.load Tryd.underlying3 rfl rfl (cell_at hS.2 (Tr.at20 h16))) ?_  -- trans.go:39 t60 := (Op.load 3 t59) [guard 3 true]
                refine AH.takeG 8 rfl (by kernel_rfl) (by kernel_rfl) (by kernel_rfl) (fun _ _ _ _ h => h) ⟨hBm, hT⟩ (by decide) rfl rfl rfl (fun w hS => R.eql rfl rfl (decide_eq_true h2)) ?_  -- trans.go:39 t61 := (Op.binOp BinOp.eql 3 t58 t60 3) [guard 3 true]
                refine AH.take 9 rfl (by kernel_rfl) (by kernel_rfl) (by kernel_rfl) (fun _ _ _ _ h => h) ⟨hBm, hT⟩ (by decide) (fun w hS => R.pickT rfl rfl) ?_  -- trans.go:39 t62 := (Op.pick t56 t61 c(Value.bool false))
                refine AH.take 10 rfl (by kernel_rfl) (by kernel_rfl) (by kernel_rfl) (fun _ _ _ _ h => h) ⟨hBm, hT⟩ (by decide) (fun w hS => R.move rfl) ?_  -- trans.go:39 t63 := (Op.move t62)
                refine AH.takeG 11 rfl (by kernel_rfl) (by kernel_rfl) (by kernel_rfl) (fun _ _ _ _ h => h) ⟨hBm, hT⟩ (by decide) rfl rfl rfl (fun w hS => FA33_5 rfl) ?_  -- trans.go:39 t64 := (Op.fieldAddr 33 t14 5) [guard 10 true]
                refine AH.takeG 12 rfl (by kernel_rfl) (by kernel_rfl) (by kernel_rfl) (fun _ _ _ _ h => h) ⟨hBm, hT⟩ (by decide) rfl rfl rfl (fun w hS => R.loadAgg1 (cs := [sv M.qname, .int .i64 M.qtype]) Tryd.underlying25 rfl sz25 rfl (fun j u hj => cell_at hS.1 (by match j, hj with | 0, hj => exact hj | 1, hj => exact hj))) ?_  -- trans.go:39 t65 := (Op.load 25 t64) [guard 10 true]
                refine AH.takeG 13 rfl (by kernel_rfl) (by kernel_rfl) (by kernel_rfl) (fun _ _ _ _ h => h) ⟨hBm, hT⟩ (by decide) rfl rfl rfl (fun w hS => FA29_0 rfl) ?_  -- trans.go:39 t66 := (Op.fieldAddr 29 t6 0) [guard 10 true]
                refine AH.takeG 14 rfl (by kernel_rfl) (by kernel_rfl) (by kernel_rfl) (fun _ _ _ _ h => h) ⟨hBm, hT⟩ (by decide) rfl rfl rfl (fun w hS => R.loadAgg1 (cs := [sv t.qname, .int .i64 t.qtype]) Tryd.underlying25 rfl sz25 rfl (fun j u hj => cell_at hS.2 (by match j, hj with | 0, hj => exact hj | 1, hj => exact hj))) ?_  -- trans.go:39 t67 := (Op.load 25 t66) [guard 10 true]
                refine AH.takeG 15 rfl (by kernel_rfl) (by kernel_rfl) (by kernel_rfl) (fun _ _ _ _ h => h) ⟨hBm, hT⟩ (by decide) rfl rfl rfl (fun w hS => R.eql25 (a := M.qname) (b := t.qname) (m := M.qtype) (n := t.qtype) rfl rfl (decide_eq_false h3)) ?_  -- trans.go:39 t68 := (Op.binOp BinOp.eql 25 t65 t67 25) [guard 10 true]
                refine AH.take 16 rfl (by kernel_rfl) (by kernel_rfl) (by kernel_rfl) (fun _ _ _ _ h => h) ⟨hBm, hT⟩ (by decide) (fun w hS => R.pickT rfl rfl) ?_  -- trans.go:39 t69 := (Op.pick t63 t68 c(Value.bool false))
                refine AH.eff 17 (by kernel_rfl) rfl rfl (OP.storeAgg inf33.choose_spec.1 (by rw [inf33.choose_spec.2]; rfl) rfl rfl (m_all _ _ _ _ _ _ _) hR rfl ?_)
                intro w7 hc7 hs7 hR
                have hC := (hC.trans (Chg.drew _ _)).then hc7 (fun k hk e => by omega)
                have hC2 : Chg (fun k => k = br) w4 w7 := ((hc46.trans (Chg.drew _ _)).mono (fun _ _ e => e.elim)).then hc7 (fun k hk e => e)
                have hS2 := (show _ ∧ _ from ⟨hc7.at hBm (fun e => by omega), hc7.at hT (fun e => by omega)⟩)
                refine ⟨hS2, ?_⟩
                refine AH.take 18 rfl (by kernel_rfl) (by kernel_rfl) (by kernel_rfl) (fun _ _ _ _ h => h) hS2 (by decide) (fun w hS => R.assign rfl) ?_  -- trans.go:39 t13 := (Op.assign t69)
                refine AH.done (by kernel_rfl) ?_
                have hans : ansT t M = false := by unfold ansT; simp; intro _ _ h4; exact fun h5 => h3 ⟨h4, h5⟩
                refine EW.next ?_
                refine CW.ret ?_
                exact EW.retCT (.inl rfl) rfl rfl rfl (cs := M.cells (.slice Aa M.ans.length ca) (.slice Ab M.auth.length cb)) Tryd.underlying33 rfl sz33 (fun j u hj => cell_at hR (by rw [List.getElem?_toArray]; exact hj)) ⟨hC, by show MatchRes _ _ _ _ _ _ (some M) _ _; unfold MatchRes; simp only; rw [if_pos (by unfold passT; rw [decide_eq_true (show link = t.link by omega), decide_eq_true (show gen = t.gen by omega), decide_eq_true (show port = t.port by omega)]; simp [*])]; exact ⟨_, by rw [show ansT t M = _ from hans], _, _, rfl, hva.kept hC2 (fun k hk e => by have := hfa k hk; omega), hvb.kept hC2 (fun k hk e => by have := hfb k hk; omega), fun k hk => by have := hfa k hk; have := hc13.size; omega, fun k hk => by have := hfb k hk; have := hc13.size; omega⟩⟩
              · skip
                refine CW.draw (fun w0 => w0.heap[bm]? = some (.cells (M.cells (.slice Aa M.ans.length ca) (.slice Ab M.auth.length cb)).toArray 33 (0, 0)) ∧ w0.heap[bt]? = some (.cells t.cells.toArray 29 (0, 0))) (by kernel_rfl) ?_
                refine AH.take 0 rfl (by kernel_rfl) (by kernel_rfl) (by kernel_rfl) (fun _ _ _ _ h => h) ⟨hBm, hT⟩ (by decide) (fun w hS => R.loadAgg1 (cs := M.cells (.slice Aa M.ans.length ca) (.slice Ab M.auth.length cb)) Tryd.underlying33 rfl sz33 rfl (fun j u hj => cell_at hS.1 (by rw [Nat.zero_add, List.getElem?_toArray]; exact hj))) ?_  -- trans.go:39 t53 := (Op.load 33 t14)
                refine AH.take 1 rfl (by kernel_rfl) (by kernel_rfl) (by kernel_rfl) (fun _ _ _ _ h => h) ⟨hBm, hT⟩ (by decide) (fun w hS => FA33_1 rfl) ?_  -- trans.go:39 t54 := (Op.fieldAddr 33 t14 1)
                refine AH.take 2 rfl (by kernel_rfl) (by kernel_rfl) (by kernel_rfl) (fun _ _ _ _ h => h) ⟨hBm, hT⟩ (by decide) (fun w hS => R.load (v := .bool true) Tryd.underlying4 rfl rfl (cell_at hS.1 (show _ = some (Value.bool true) from congrArg (fun b => some (Value.bool b)) h1))) ?_  -- trans.go:39 t55 := (Op.load 4 t54)
                refine AH.take 3 rfl (by kernel_rfl) (by kernel_rfl) (by kernel_rfl) (fun _ _ _ _ h => h) ⟨hBm, hT⟩ (by decide) (fun w hS => R.move rfl) ?_  -- trans.go:39 t56 := (Op.move t55)
                refine AH.takeG 4 rfl (by kernel_rfl) (by kernel_rfl) (by kernel_rfl) (fun _ _ _ _ h => h) ⟨hBm, hT⟩ (by decide) rfl rfl rfl (fun w hS => FA33_0 rfl) ?_  -- trans.go:39 t57 := (Op.fieldAddr 33 t14 0) [guard 3 true]
                refine AH.takeG 5 rfl (by kernel_rfl) (by kernel_rfl) (by kernel_rfl) (fun _ _ _ _ h => h) ⟨hBm, hT⟩ (by decide) rfl rfl rfl (fun w hS => R.load Tryd.underlying3 rfl rfl (cell_at hS.1 rfl)) ?_  -- trans.go:39 t58 := (Op.load 3 t57) [guard 3 true]
                refine AH.takeG 6 rfl (by kernel_rfl) (by kernel_rfl) (by kernel_rfl) (fun _ _ _ _ h => h) ⟨hBm, hT⟩ (by decide) rfl rfl rfl (fun w hS => FA29_4 rfl) ?_  -- trans.go:39 t59 := (Op.fieldAddr 29 t6 4) [guard 3 true]
                refine AH.takeG 7 rfl (by kernel_rfl) (by kernel_rfl) (by kernel_rfl) (fun _ _ _ _ h => h) ⟨hBm, hT⟩ (by decide) rfl rfl rfl (fun w hS => R.load Tryd.underlying3 rfl rfl (cell_at hS.2 (Tr.at20 h16))) ?_  -- trans.go:39 t60 := (Op.load 3 t59) [guard 3 true]
                refine AH.takeG 8 rfl (by kernel_rfl) (by kernel_rfl) (by kernel_rfl) (fun _ _ _ _ h => h) ⟨hBm, hT⟩ (by decide) rfl rfl rfl (fun w hS => R.eql rfl rfl (decide_eq_true h2)) ?_  -- trans.go:39 t61 := (Op.binOp BinOp.eql 3 t58 t60 3) [guard 3 true]
                refine AH.take 9 rfl (by kernel_rfl) (by kernel_rfl) (by kernel_rfl) (fun _ _ _ _ h => h) ⟨hBm, hT⟩ (by decide) (fun w hS => R.pickT rfl rfl) ?_  -- trans.go:39 t62 := (Op.pick t56 t61 c(Value.bool false))
                refine AH.take 10 rfl (by kernel_rfl) (by kernel_rfl) (by kernel_rfl) (fun _ _ _ _ h => h) ⟨hBm, hT⟩ (by decide) (fun w hS => R.move rfl) ?_  -- trans.go:39 t63 := (Op.move t62)
                refine AH.takeG 11 rfl (by kernel_rfl) (by kernel_rfl) (by kernel_rfl) (fun _ _ _ _ h => h) ⟨hBm, hT⟩ (by decide) rfl rfl rfl (fun w hS => FA33_5 rfl) ?_  -- trans.go:39 t64 := (Op.fieldAddr 33 t14 5) [guard 10 true]
                refine AH.takeG 12 rfl (by kernel_rfl) (by kernel_rfl) (by kernel_rfl) (fun _ _ _ _ h => h) ⟨hBm, hT⟩ (by decide) rfl rfl rfl (fun w hS => R.loadAgg1 (cs := [sv M.qname, .int .i64 M.qtype]) Tryd.underlying25 rfl sz25 rfl (fun j u hj => cell_at hS.1 (by match j, hj with | 0, hj => exact hj | 1, hj => exact hj))) ?_  -- trans.go:39 t65 := (Op.load 25 t64) [guard 10 true]
                refine AH.takeG 13 rfl (by kernel_rfl) (by kernel_rfl) (by kernel_rfl) (fun _ _ _ _ h => h) ⟨hBm, hT⟩ (by decide) rfl rfl rfl (fun w hS => FA29_0 rfl) ?_  -- trans.go:39 t66 := (Op.fieldAddr 29 t6 0) [guard 10 true]
                refine AH.takeG 14 rfl (by kernel_rfl) (by kernel_rfl) (by kernel_rfl) (fun _ _ _ _ h => h) ⟨hBm, hT⟩ (by decide) rfl rfl rfl (fun w hS => R.loadAgg1 (cs := [sv t.qname, .int .i64 t.qtype]) Tryd.underlying25 rfl sz25 rfl (fun j u hj => cell_at hS.2 (by match j, hj with | 0, hj => exact hj | 1, hj => exact hj))) ?_  -- trans.go:39 t67 := (Op.load 25 t66) [guard 10 true]
                refine AH.takeG 15 rfl (by kernel_rfl) (by kernel_rfl) (by kernel_rfl) (fun _ _ _ _ h => h) ⟨hBm, hT⟩ (by decide) rfl rfl rfl (fun w hS => R.eql25 (a := M.qname) (b := t.qname) (m := M.qtype) (n := t.qtype) rfl rfl (decide_eq_true h3)) ?_  -- trans.go:39 t68 := (Op.binOp BinOp.eql 25 t65 t67 25) [guard 10 true]
                refine AH.take 16 rfl (by kernel_rfl) (by kernel_rfl) (by kernel_rfl) (fun _ _ _ _ h => h) ⟨hBm, hT⟩ (by decide) (fun w hS => R.pickT rfl rfl) ?_  -- trans.go:39 t69 := (Op.pick t63 t68 c(Value.bool false))
                refine AH.eff 17 (by kernel_rfl) rfl rfl (OP.storeAgg inf33.choose_spec.1 (by rw [inf33.choose_spec.2]; rfl) rfl rfl (m_all _ _ _ _ _ _ _) hR rfl ?_)
                intro w7 hc7 hs7 hR
                have hC := (hC.trans (Chg.drew _ _)).then hc7 (fun k hk e => by omega)
                have hC2 : Chg (fun k => k = br) w4 w7 := ((hc46.trans (Chg.drew _ _)).mono (fun _ _ e => e.elim)).then hc7 (fun k hk e => e)
                have hS2 := (show _ ∧ _ from ⟨hc7.at hBm (fun e => by omega), hc7.at hT (fun e => by omega)⟩)
                refine ⟨hS2, ?_⟩
                refine AH.take 18 rfl (by kernel_rfl) (by kernel_rfl) (by kernel_rfl) (fun _ _ _ _ h => h) hS2 (by decide) (fun w hS => R.assign rfl) ?_  -- trans.go:39 t13 := (Op.assign t69)
                refine AH.done (by kernel_rfl) ?_
                have hans : ansT t M = true := by unfold ansT; simp [h1, h2, h3.1, h3.2]
                refine EW.next ?_
                refine CW.ret ?_
                exact EW.retCT (.inl rfl) rfl rfl rfl (cs := M.cells (.slice Aa M.ans.length ca) (.slice Ab M.auth.length cb)) Tryd.underlying33 rfl sz33 (fun j u hj => cell_at hR (by rw [List.getElem?_toArray]; exact hj)) ⟨hC, by show MatchRes _ _ _ _ _ _ (some M) _ _; unfold MatchRes; simp only; rw [if_pos (by unfold passT; rw [decide_eq_true (show link = t.link by omega), decide_eq_true (show gen = t.gen by omega), decide_eq_true (show port = t.port by omega)]; simp [*])]; exact ⟨_, by rw [show ansT t M = _ from hans], _, _, rfl, hva.kept hC2 (fun k hk e => by have := hfa k hk; omega), hvb.kept hC2 (fun k hk e => by have := hfb k hk; omega), fun k hk => by have := hfa k hk; have := hc13.size; omega, fun k hk => by have := hfb k hk; have := hc13.size; omega⟩⟩
            · skip
              refine WL.gop (by decide) rfl rfl rfl (R.neq27 (c := true) (a := frm) (b := t.to) hf16 h16 rfl rfl (by simp [hto])) ?_
              refine WL.gop (by decide) rfl rfl rfl (R.pickT rfl rfl) ?_  -- trans.go:36 t50 := (Op.pick t45 t49 c(Value.bool false)) [guard 20 false]
              refine WL.op (by decide) (R.pickF rfl rfl) ?_  -- trans.go:36 t51 := (Op.pick t41 c(Value.bool true) t50)
              refine WL.next ?_
              refine CW.condT rfl ?_
              refine CW.rseq ?_  -- region 3
              refine WL.op (by decide) (R.build (parts := []) (vals := []) rfl (fun w => build33_0 w)) ?_  -- trans.go:37 t52 := (Op.build 33 [])
              refine WL.eff rfl (OP.storeAgg inf33.choose_spec.1 (by rw [inf33.choose_spec.2]; rfl) rfl rfl (m_all _ _ _ _ _ _ _) hR rfl ?_)
              intro w7 hc7 hs7 hR
              have hC := hC.then hc7 (fun k hk e => by omega)
              refine WL.op (by decide) (R.assign rfl) ?_  -- trans.go:37 t13 := (Op.assign c(Value.bool false))
              refine WL.next ?_
              refine CW.ret ?_
              refine EW.thenRet ?_
              exact EW.retCT (.inl rfl) rfl rfl rfl (cs := Msg.cells ⟨0, false, false, false, 0, [], 0, [], []⟩ (.slice none 0 0) (.slice none 0 0)) Tryd.underlying33 rfl sz33 (fun j u hj => cell_at hR (by rw [List.getElem?_toArray]; exact hj)) ⟨hC, by show MatchRes _ _ _ _ _ _ (some M) _ _; unfold MatchRes; simp only; rw [if_neg (by unfold passT; simp [*])]; rfl⟩
          · skip
            refine WL.gop (by decide) rfl rfl rfl (R.load (v := .bool true) Tryd.underlying4 rfl rfl (cell_at hT ((Tr.at23 h16).trans (by rw [hgr])))) ?_
            refine WL.gop (by decide) rfl rfl rfl (R.not rfl) ?_  -- trans.go:36 t44 := (Op.unOp UnOp.not 4 t43) [guard 20 false]
            refine WL.gop (by decide) rfl rfl rfl (R.move rfl) ?_  -- trans.go:36 t45 := (Op.move t44) [guard 20 false]
            refine WL.pass (by decide) rfl rfl rfl ?_  -- trans.go:36 t46 := (Op.load 27 t9) [guard 24 true]
            refine WL.pass (by decide) rfl rfl rfl ?_  -- trans.go:36 t47 := (Op.fieldAddr 29 t6 3) [guard 24 true]
            refine WL.pass (by decide) rfl rfl rfl ?_  -- trans.go:36 t48 := (Op.load 27 t47) [guard 24 true]
            refine WL.pass (by decide) rfl rfl rfl ?_  -- trans.go:36 t49 := (Op.binOp BinOp.neq 27 t46 t48 27) [guard 24 true]
            refine WL.gop (by decide) rfl rfl rfl (R.pickF rfl rfl) ?_  -- trans.go:36 t50 := (Op.pick t45 t49 c(Value.bool false)) [guard 20 false]
            refine WL.op (by decide) (R.pickF rfl rfl) ?_  -- trans.go:36 t51 := (Op.pick t41 c(Value.bool true) t50)
            refine WL.next ?_
            refine CW.condF rfl ?_
            refine CW.skip ?_
            refine EW.next ?_
            refine CW.seq ?_
            rcases ans4 (a := M.reply) (p := M.id = t.id) (q := M.qname = t.qname ∧ M.qtype = t.qtype) with h1 | ⟨h1, h2⟩ | ⟨h1, h2, h3⟩ | ⟨h1, h2, h3⟩
            · skip
              refine CW.draw (fun w0 => w0.heap[bm]? = some (.cells (M.cells (.slice Aa M.ans.length ca) (.slice Ab M.auth.length cb)).toArray 33 (0, 0)) ∧ w0.heap[bt]? = some (.cells t.cells.toArray 29 (0, 0))) (by kernel_rfl) ?_
              refine AH.take 0 rfl (by kernel_rfl) (by kernel_rfl) (by kernel_rfl) (fun _ _ _ _ h => h) ⟨hBm, hT⟩ (by decide) (fun w hS => R.loadAgg1 (cs := M.cells (.slice Aa M.ans.length ca) (.slice Ab M.auth.length cb)) Tryd.underlying33 rfl sz33 rfl (fun j u hj => cell_at hS.1 (by rw [Nat.zero_add, List.getElem?_toArray]; exact hj))) ?_  -- trans.go:39 t53 := (Op.load 33 t14)
              refine AH.take 1 rfl (by kernel_rfl) (by kernel_rfl) (by kernel_rfl) (fun _ _ _ _ h => h) ⟨hBm, hT⟩ (by decide) (fun w hS => FA33_1 rfl) ?_  -- trans.go:39 t54 := (Op.fieldAddr 33 t14 1)
              refine AH.take 2 rfl (by kernel_rfl) (by kernel_rfl) (by kernel_rfl) (fun _ _ _ _ h => h) ⟨hBm, hT⟩ (by decide) (fun w hS => R.load (v := .bool false) Tryd.underlying4 rfl rfl (cell_at hS.1 (show _ = some (Value.bool false) from congrArg (fun b => some (Value.bool b)) h1))) ?_  -- trans.go:39 t55 := (Op.load 4 t54)
              refine AH.take 3 rfl (by kernel_rfl) (by kernel_rfl) (by kernel_rfl) (fun _ _ _ _ h => h) ⟨hBm, hT⟩ (by decide) (fun w hS => R.move rfl) ?_  -- trans.go:39 t56 := (Op.move t55)
              refine AH.pass 4 rfl (by kernel_rfl) (by kernel_rfl) (by kernel_rfl) (fun _ _ _ _ h => h) ⟨hBm, hT⟩ (by decide) rfl rfl rfl ?_  -- trans.go:39 t57 := (Op.fieldAddr 33 t14 0) [guard 3 true]
              refine AH.pass 5 rfl (by kernel_rfl) (by kernel_rfl) (by kernel_rfl) (fun _ _ _ _ h => h) ⟨hBm, hT⟩ (by decide) rfl rfl rfl ?_  -- trans.go:39 t58 := (Op.load 3 t57) [guard 3 true]
              refine AH.pass 6 rfl (by kernel_rfl) (by kernel_rfl) (by kernel_rfl) (fun _ _ _ _ h => h) ⟨hBm, hT⟩ (by decide) rfl rfl rfl ?_  -- trans.go:39 t59 := (Op.fieldAddr 29 t6 4) [guard 3 true]
              refine AH.pass 7 rfl (by kernel_rfl) (by kernel_rfl) (by kernel_rfl) (fun _ _ _ _ h => h) ⟨hBm, hT⟩ (by decide) rfl rfl rfl ?_  -- trans.go:39 t60 := (Op.load 3 t59) [guard 3 true]
              refine AH.pass 8 rfl (by kernel_rfl) (by kernel_rfl) (by kernel_rfl) (fun _ _ _ _ h => h) ⟨hBm, hT⟩ (by decide) rfl rfl rfl ?_  -- trans.go:39 t61 := (Op.binOp BinOp.eql 3 t58 t60 3) [guard 3 true]
              refine AH.take 9 rfl (by kernel_rfl) (by kernel_rfl) (by kernel_rfl) (fun _ _ _ _ h => h) ⟨hBm, hT⟩ (by decide) (fun w hS => R.pickF rfl rfl) ?_  -- trans.go:39 t62 := (Op.pick t56 t61 c(Value.bool false))
              refine AH.take 10 rfl (by kernel_rfl) (by kernel_rfl) (by kernel_rfl) (fun _ _ _ _ h => h) ⟨hBm, hT⟩ (by decide) (fun w hS => R.move rfl) ?_  -- trans.go:39 t63 := (Op.move t62)
              refine AH.pass 11 rfl (by kernel_rfl) (by kernel_rfl) (by kernel_rfl) (fun _ _ _ _ h => h) ⟨hBm, hT⟩ (by decide) rfl rfl rfl ?_  -- trans.go:39 t64 := (Op.fieldAddr 33 t14 5) [guard 10 true]
              refine AH.pass 12 rfl (by kernel_rfl) (by kernel_rfl) (by kernel_rfl) (fun _ _ _ _ h => h) ⟨hBm, hT⟩ (by decide) rfl rfl rfl ?_  -- trans.go:39 t65 := (Op.load 25 t64) [guard 10 true]
              refine AH.pass 13 rfl (by kernel_rfl) (by kernel_rfl) (by kernel_rfl) (fun _ _ _ _ h => h) ⟨hBm, hT⟩ (by decide) rfl rfl rfl ?_  -- trans.go:39 t66 := (Op.fieldAddr 29 t6 0) [guard 10 true]
              refine AH.pass 14 rfl (by kernel_rfl) (by kernel_rfl) (by kernel_rfl) (fun _ _ _ _ h => h) ⟨hBm, hT⟩ (by decide) rfl rfl rfl ?_  -- trans.go:39 t67 := (Op.load 25 t66) [guard 10 true]
              refine AH.pass 15 rfl (by kernel_rfl) (by kernel_rfl) (by kernel_rfl) (fun _ _ _ _ h => h) ⟨hBm, hT⟩ (by decide) rfl rfl rfl ?_  -- trans.go:39 t68 := (Op.binOp BinOp.eql 25 t65 t67 25) [guard 10 true]
              refine AH.take 16 rfl (by kernel_rfl) (by kernel_rfl) (by kernel_rfl) (fun _ _ _ _ h => h) ⟨hBm, hT⟩ (by decide) (fun w hS => R.pickF rfl rfl) ?_  -- trans.go:39 t69 := (Op.pick t63 t68 c(Value.bool false))
              refine AH.eff 17 (by kernel_rfl) rfl rfl (OP.storeAgg inf33.choose_spec.1 (by rw [inf33.choose_spec.2]; rfl) rfl rfl (m_all _ _ _ _ _ _ _) hR rfl ?_)
              intro w7 hc7 hs7 hR
              have hC := (hC.trans (Chg.drew _ _)).then hc7 (fun k hk e => by omega)
              have hC2 : Chg (fun k => k = br) w4 w7 := ((hc46.trans (Chg.drew _ _)).mono (fun _ _ e => e.elim)).then hc7 (fun k hk e => e)
              have hS2 := (show _ ∧ _ from ⟨hc7.at hBm (fun e => by omega), hc7.at hT (fun e => by omega)⟩)
              refine ⟨hS2, ?_⟩
              refine AH.take 18 rfl (by kernel_rfl) (by kernel_rfl) (by kernel_rfl) (fun _ _ _ _ h => h) hS2 (by decide) (fun w hS => R.assign rfl) ?_  -- trans.go:39 t13 := (Op.assign t69)
              refine AH.done (by kernel_rfl) ?_
              have hans : ansT t M = false := by unfold ansT; simp [h1]
              refine EW.next ?_
              refine CW.ret ?_
              exact EW.retCT (.inl rfl) rfl rfl rfl (cs := M.cells (.slice Aa M.ans.length ca) (.slice Ab M.auth.length cb)) Tryd.underlying33 rfl sz33 (fun j u hj => cell_at hR (by rw [List.getElem?_toArray]; exact hj)) ⟨hC, by show MatchRes _ _ _ _ _ _ (some M) _ _; unfold MatchRes; simp only; rw [if_pos (by unfold passT; rw [decide_eq_true (show link = t.link by omega), decide_eq_true (show gen = t.gen by omega), decide_eq_true (show port = t.port by omega)]; simp [*])]; exact ⟨_, by rw [show ansT t M = _ from hans], _, _, rfl, hva.kept hC2 (fun k hk e => by have := hfa k hk; omega), hvb.kept hC2 (fun k hk e => by have := hfb k hk; omega), fun k hk => by have := hfa k hk; have := hc13.size; omega, fun k hk => by have := hfb k hk; have := hc13.size; omega⟩⟩
            · skip
              refine CW.draw (fun w0 => w0.heap[bm]? = some (.cells (M.cells (.slice Aa M.ans.length ca) (.slice Ab M.auth.length cb)).toArray 33 (0, 0)) ∧ w0.heap[bt]? = some (.cells t.cells.toArray 29 (0, 0))) (by kernel_rfl) ?_
              refine AH.take 0 rfl (by kernel_rfl) (by kernel_rfl) (by kernel_rfl) (fun _ _ _ _ h => h) ⟨hBm, hT⟩ (by decide) (fun w hS => R.loadAgg1 (cs := M.cells (.slice Aa M.ans.length ca) (.slice Ab M.auth.length cb)) Tryd.underlying33 rfl sz33 rfl (fun j u hj => cell_at hS.1 (by rw [Nat.zero_add, List.getElem?_toArray]; exact hj))) ?_  -- trans.go:39 t53 := (Op.load 33 t14)
              refine AH.take 1 rfl (by kernel_rfl) (by kernel_rfl) (by kernel_rfl) (fun _ _ _ _ h => h) ⟨hBm, hT⟩ (by decide) (fun w hS => FA33_1 rfl) ?_  -- trans.go:39 t54 := (Op.fieldAddr 33 t14 1)
              refine AH.take 2 rfl (by kernel_rfl) (by kernel_rfl) (by kernel_rfl) (fun _ _ _ _ h => h) ⟨hBm, hT⟩ (by decide) (fun w hS => R.load (v := .bool true) Tryd.underlying4 rfl rfl (cell_at hS.1 (show _ = some (Value.bool true) from congrArg (fun b => some (Value.bool b)) h1))) ?_  -- trans.go:39 t55 := (Op.load 4 t54)
              refine AH.take 3 rfl (by kernel_rfl) (by kernel_rfl) (by kernel_rfl) (fun _ _ _ _ h => h) ⟨hBm, hT⟩ (by decide) (fun w hS => R.move rfl) ?_  -- trans.go:39 t56 := (Op.move t55)
              refine AH.takeG 4 rfl (by kernel_rfl) (by kernel_rfl) (by kernel_rfl) (fun _ _ _ _ h => h) ⟨hBm, hT⟩ (by decide) rfl rfl rfl (fun w hS => FA33_0 rfl) ?_  -- trans.go:39 t57 := (Op.fieldAddr 33 t14 0) [guard 3 true]
              refine AH.takeG 5 rfl (by kernel_rfl) (by kernel_rfl) (by kernel_rfl) (fun _ _ _ _ h => h) ⟨hBm, hT⟩ (by decide) rfl rfl rfl (fun w hS => R.load Tryd.underlying3 rfl rfl (cell_at hS.1 rfl)) ?_  -- trans.go:39 t58 := (Op.load 3 t57) [guard 3 true]
              refine AH.takeG 6 rfl (by kernel_rfl) (by kernel_rfl) (by kernel_rfl) (fun _ _ _ _ h => h) ⟨hBm, hT⟩ (by decide) rfl rfl rfl (fun w hS => FA29_4 rfl) ?_  -- trans.go:39 t59 := (Op.fieldAddr 29 t6 4) [guard 3 true]
              refine AH.takeG 7 rfl (by kernel_rfl) (by kernel_rfl) (by kernel_rfl) (fun _ _ _ _ h => h) ⟨hBm, hT⟩ (by decide) rfl rfl rfl (fun w hS => R.load Tryd.underlying3 rfl rfl (cell_at hS.2 (Tr.at20 h16))) ?_  -- trans.go:39 t60 := (Op.load 3 t59) [guard 3 true]
              refine AH.takeG 8 rfl (by kernel_rfl) (by kernel_rfl) (by kernel_rfl) (fun _ _ _ _ h => h) ⟨hBm, hT⟩ (by decide) rfl rfl rfl (fun w hS => R.eql rfl rfl (decide_eq_false h2)) ?_  -- trans.go:39 t61 := (Op.binOp BinOp.eql 3 t58 t60 3) [guard 3 true]
              refine AH.take 9 rfl (by kernel_rfl) (by kernel_rfl) (by kernel_rfl) (fun _ _ _ _ h => h) ⟨hBm, hT⟩ (by decide) (fun w hS => R.pickT rfl rfl) ?_  -- trans.go:39 t62 := (Op.pick t56 t61 c(Value.bool false))
              refine AH.take 10 rfl (by kernel_rfl) (by kernel_rfl) (by kernel_rfl) (fun _ _ _ _ h => h) ⟨hBm, hT⟩ (by decide) (fun w hS => R.move rfl) ?_  -- trans.go:39 t63 := (Op.move t62)
              refine AH.pass 11 rfl (by kernel_rfl) (by kernel_rfl) (by kernel_rfl) (fun _ _ _ _ h => h) ⟨hBm, hT⟩ (by decide) rfl rfl rfl ?_  -- trans.go:39 t64 := (Op.fieldAddr 33 t14 5) [guard 10 true]
              refine AH.pass 12 rfl (by kernel_rfl) (by kernel_rfl) (by kernel_rfl) (fun _ _ _ _ h => h) ⟨hBm, hT⟩ (by decide) rfl rfl rfl ?_  -- trans.go:39 t65 := (Op.load 25 t64) [guard 10 true]
              refine AH.pass 13 rfl (by kernel_rfl) (by kernel_rfl) (by kernel_rfl) (fun _ _ _ _ h => h) ⟨hBm, hT⟩ (by decide) rfl rfl rfl ?_  -- trans.go:39 t66 := (Op.fieldAddr 29 t6 0) [guard 10 true]
              refine AH.pass 14 rfl (by kernel_rfl) (by kernel_rfl) (by kernel_rfl) (fun _ _ _ _ h => h) ⟨hBm, hT⟩ (by decide) rfl rfl rfl ?_  -- trans.go:39 t67 := (Op.load 25 t66) [guard 10 true]
              refine AH.pass 15 rfl (by kernel_rfl) (by kernel_rfl) (by kernel_rfl) (fun _ _ _ _ h => h) ⟨hBm, hT⟩ (by decide) rfl rfl rfl ?_  -- trans.go:39 t68 := (Op.binOp BinOp.eql 25 t65 t67 25) [guard 10 true]
              refine AH.take 16 rfl (by kernel_rfl) (by kernel_rfl) (by kernel_rfl) (fun _ _ _ _ h => h) ⟨hBm, hT⟩ (by decide) (fun w hS => R.pickF rfl rfl) ?_  -- trans.go:39 t69 := (Op.pick t63 t68 c(Value.bool false))
              refine AH.eff 17 (by kernel_rfl) rfl rfl (OP.storeAgg inf33.choose_spec.1 (by rw [inf33.choose_spec.2]; rfl) rfl rfl (m_all _ _ _ _ _ _ _) hR rfl ?_)
              intro w7 hc7 hs7 hR
              have hC := (hC.trans (Chg.drew _ _)).then hc7 (fun k hk e => by omega)
              have hC2 : Chg (fun k => k = br) w4 w7 := ((hc46.trans (Chg.drew _ _)).mono (fun _ _ e => e.elim)).then hc7 (fun k hk e => e)
              have hS2 := (show _ ∧ _ from ⟨hc7.at hBm (fun e => by omega), hc7.at hT (fun e => by omega)⟩)
              refine ⟨hS2, ?_⟩
              refine AH.take 18 rfl (by kernel_rfl) (by kernel_rfl) (by kernel_rfl) (fun _ _ _ _ h => h) hS2 (by decide) (fun w hS => R.assign rfl) ?_  -- trans.go:39 t13 := (Op.assign t69)
              refine AH.done (by kernel_rfl) ?_
              have hans : ansT t M = false := by unfold ansT; simp [h2]
              refine EW.next ?_
              refine CW.ret ?_
              exact EW.retCT (.inl rfl) rfl rfl rfl (cs := M.cells (.slice Aa M.ans.length ca) (.slice Ab M.auth.length cb)) Tryd.underlying33 rfl sz33 (fun j u hj => cell_at hR (by rw [List.getElem?_toArray]; exact hj)) ⟨hC, by show MatchRes _ _ _ _ _ _ (some M) _ _; unfold MatchRes; simp only; rw [if_pos (by unfold passT; rw [decide_eq_true (show link = t.link by omega), decide_eq_true (show gen = t.gen by omega), decide_eq_true (show port = t.port by omega)]; simp [*])]; exact ⟨_, by rw [show ansT t M = _ from hans], _, _, rfl, hva.kept hC2 (fun k hk e => by have := hfa k hk; omega), hvb.kept hC2 (fun k hk e => by have := hfb k hk; omega), fun k hk => by have := hfa k hk; have := hc13.size; omega, fun k hk => by have := hfb k hk; have := hc13.size; omega⟩⟩
            · skip
              refine CW.draw (fun w0 => w0.heap[bm]? = some (.cells (M.cells (.slice Aa M.ans.length ca) (.slice Ab M.auth.length cb)).toArray 33 (0, 0)) ∧ w0.heap[bt]? = some (.cells t.cells.toArray 29 (0, 0))) (by kernel_rfl) ?_
              refine AH.take 0 rfl (by kernel_rfl) (by kernel_rfl) (by kernel_rfl) (fun _ _ _ _ h => h) ⟨hBm, hT⟩ (by decide) (fun w hS => R.loadAgg1 (cs := M.cells (.slice Aa M.ans.length ca) (.slice Ab M.auth.length cb)) Tryd.underlying33 rfl sz33 rfl (fun j u hj => cell_at hS.1 (by rw [Nat.zero_add, List.getElem?_toArray]; exact hj))) ?_  -- trans.go:39 t53 := (Op.load 33 t14)
              refine AH.take 1 rfl (by kernel_rfl) (by kernel_rfl) (by kernel_rfl) (fun _ _ _ _ h => h) ⟨hBm, hT⟩ (by decide) (fun w hS => FA33_1 rfl) ?_  -- trans.go:39 t54 := (Op.fieldAddr 33 t14 1)
              refine AH.take 2 rfl (by kernel_rfl) (by kernel_rfl) (by kernel_rfl) (fun _ _ _ _ h => h) ⟨hBm, hT⟩ (by decide) (fun w hS => R.load (v := .bool true) Tryd.underlying4 rfl rfl (cell_at hS.1 (show _ = some (Value.bool true) from congrArg (fun b => some (Value.bool b)) h1))) ?_  -- trans.go:39 t55 := (Op.load 4 t54)
              refine AH.take 3 rfl (by kernel_rfl) (by kernel_rfl) (by kernel_rfl) (fun _ _ _ _ h => h) ⟨hBm, hT⟩ (by decide) (fun w hS => R.move rfl) ?_  -- trans.go:39 t56 := (Op.move t55)
              refine AH.takeG 4 rfl (by kernel_rfl) (by kernel_rfl) (by kernel_rfl) (fun _ _ _ _ h => h) ⟨hBm, hT⟩ (by decide) rfl rfl rfl (fun w hS => FA33_0 rfl) ?_  -- trans.go:39 t57 := (Op.fieldAddr 33 t14 0) [guard 3 true]
              refine AH.takeG 5 rfl (by kernel_rfl) (by kernel_rfl) (by kernel_rfl) (fun _ _ _ _ h => h) ⟨hBm, hT⟩ (by decide) rfl rfl rfl (fun w hS => R.load Tryd.underlying3 rfl rfl (cell_at hS.1 rfl)) ?_  -- trans.go:39 t58 := (Op.load 3 t57) [guard 3 true]
              refine AH.takeG 6 rfl (by kernel_rfl) (by kernel_rfl) (by kernel_rfl) (fun _ _ _ _ h => h) ⟨hBm, hT⟩ (by decide) rfl rfl rfl (fun w hS => FA29_4 rfl) ?_  -- trans.go:39 t59 := (Op.fieldAddr 29 t6 4) [guard 3 true]
              refine AH.takeG 7 rfl (by kernel_rfl) (by kernel_rfl) (by kernel_rfl) (fun _ _ _ _ h => h) ⟨hBm, hT⟩ (by decide) rfl rfl rfl (fun w hS => R.load Tryd.underlying3 rfl rfl (cell_at hS.2 (Tr.at20 h16))) ?_  -- trans.go:39 t60 := (Op.load 3 t59) [guard 3 true]
              refine AH.takeG 8 rfl (by kernel_rfl) (by kernel_rfl) (by kernel_rfl) (fun _ _ _ _ h => h) ⟨hBm, hT⟩ (by decide) rfl rfl rfl (fun w hS => R.eql rfl rfl (decide_eq_true h2)) ?_  -- trans.go:39 t61 := (Op.binOp BinOp.eql 3 t58 t60 3) [guard 3 true]
              refine AH.take 9 rfl (by kernel_rfl) (by kernel_rfl) (by kernel_rfl) (fun _ _ _ _ h => h) ⟨hBm, hT⟩ (by decide) (fun w hS => R.pickT rfl rfl) ?_  -- trans.go:39 t62 := (Op.pick t56 t61 c(Value.bool false))
              refine AH.take 10 rfl (by kernel_rfl) (by kernel_rfl) (by kernel_rfl) (fun _ _ _ _ h => h) ⟨hBm, hT⟩ (by decide) (fun w hS => R.move rfl) ?_  -- trans.go:39 t63 := (Op.move t62)
              refine AH.takeG 11 rfl (by kernel_rfl) (by kernel_rfl) (by kernel_rfl) (fun _ _ _ _ h => h) ⟨hBm, hT⟩ (by decide) rfl rfl rfl (fun w hS => FA33_5 rfl) ?_  -- trans.go:39 t64 := (Op.fieldAddr 33 t14 5) [guard 10 true]
              refine AH.takeG 12 rfl (by kernel_rfl) (by kernel_rfl) (by kernel_rfl) (fun _ _ _ _ h => h) ⟨hBm, hT⟩ (by decide) rfl rfl rfl (fun w hS => R.loadAgg1 (cs := [sv M.qname, .int .i64 M.qtype]) Tryd.underlying25 rfl sz25 rfl (fun j u hj => cell_at hS.1 (by match j, hj with | 0, hj => exact hj | 1, hj => exact hj))) ?_  -- trans.go:39 t65 := (Op.load 25 t64) [guard 10 true]
              refine AH.takeG 13 rfl (by kernel_rfl) (by kernel_rfl) (by kernel_rfl) (fun _ _ _ _ h => h) ⟨hBm, hT⟩ (by decide) rfl rfl rfl (fun w hS => FA29_0 rfl) ?_  -- trans.go:39 t66 := (Op.fieldAddr 29 t6 0) [guard 10 true]
              refine AH.takeG 14 rfl (by kernel_rfl) (by kernel_rfl) (by kernel_rfl) (fun _ _ _ _ h => h) ⟨hBm, hT⟩ (by decide) rfl rfl rfl (fun w hS => R.loadAgg1 (cs := [sv t.qname, .int .i64 t.qtype]) Tryd.underlying25 rfl sz25 rfl (fun j u hj => cell_at hS.2 (by match j, hj with | 0, hj => exact hj | 1, hj => exact hj))) ?_  -- trans.go:39 t67 := (Op.load 25 t66) [guard 10 true]
              refine AH.takeG 15 rfl (by kernel_rfl) (by kernel_rfl) (by kernel_rfl) (fun _ _ _ _ h => h) ⟨hBm, hT⟩ (by decide) rfl rfl rfl (fun w hS => R.eql25 (a := M.qname) (b := t.qname) (m := M.qtype) (n := t.qtype) rfl rfl (decide_eq_false h3)) ?_  -- trans.go:39 t68 := (Op.binOp BinOp.eql 25 t65 t67 25) [guard 10 true]
              refine AH.take 16 rfl (by kernel_rfl) (by kernel_rfl) (by kernel_rfl) (fun _ _ _ _ h => h) ⟨hBm, hT⟩ (by decide) (fun w hS => R.pickT rfl rfl) ?_  -- trans.go:39 t69 := (Op.pick t63 t68 c(Value.bool false))
              refine AH.eff 17 (by kernel_rfl) rfl rfl (OP.storeAgg inf33.choose_spec.1 (by rw [inf33.choose_spec.2]; rfl) rfl rfl (m_all _ _ _ _ _ _ _) hR rfl ?_)
              intro w7 hc7 hs7 hR
              have hC := (hC.trans (Chg.drew _ _)).then hc7 (fun k hk e => by omega)
              have hC2 : Chg (fun k => k = br) w4 w7 := ((hc46.trans (Chg.drew _ _)).mono (fun _ _ e => e.elim)).then hc7 (fun k hk e => e)
              have hS2 := (show _ ∧ _ from ⟨hc7.at hBm (fun e => by omega), hc7.at hT (fun e => by omega)⟩)
              refine ⟨hS2, ?_⟩
              refine AH.take 18 rfl (by kernel_rfl) (by kernel_rfl) (by kernel_rfl) (fun _ _ _ _ h => h) hS2 (by decide) (fun w hS => R.assign rfl) ?_  -- trans.go:39 t13 := (Op.assign t69)
              refine AH.done (by kernel_rfl) ?_
              have hans : ansT t M = false := by unfold ansT; simp; intro _ _ h4; exact fun h5 => h3 ⟨h4, h5⟩
              refine EW.next ?_
              refine CW.ret ?_
              exact EW.retCT (.inl rfl) rfl rfl rfl (cs := M.cells (.slice Aa M.ans.length ca) (.slice Ab M.auth.length cb)) Tryd.underlying33 rfl sz33 (fun j u hj => cell_at hR (by rw [List.getElem?_toArray]; exact hj)) ⟨hC, by show MatchRes _ _ _ _ _ _ (some M) _ _; unfold MatchRes; simp only; rw [if_pos (by unfold passT; rw [decide_eq_true (show link = t.link by omega), decide_eq_true (show gen = t.gen by omega), decide_eq_true (show port = t.port by omega)]; simp [*])]; exact ⟨_, by rw [show ansT t M = _ from hans], _, _, rfl, hva.kept hC2 (fun k hk e => by have := hfa k hk; omega), hvb.kept hC2 (fun k hk e => by have := hfb k hk; omega), fun k hk => by have := hfa k hk; have := hc13.size; omega, fun k hk => by have := hfb k hk; have := hc13.size; omega⟩⟩
            · skip
              refine CW.draw (fun w0 => w0.heap[bm]? = some (.cells (M.cells (.slice Aa M.ans.length ca) (.slice Ab M.auth.length cb)).toArray 33 (0, 0)) ∧ w0.heap[bt]? = some (.cells t.cells.toArray 29 (0, 0))) (by kernel_rfl) ?_
              refine AH.take 0 rfl (by kernel_rfl) (by kernel_rfl) (by kernel_rfl) (fun _ _ _ _ h => h) ⟨hBm, hT⟩ (by decide) (fun w hS => R.loadAgg1 (cs := M.cells (.slice Aa M.ans.length ca) (.slice Ab M.auth.length cb)) Tryd.underlying33 rfl sz33 rfl (fun j u hj => cell_at hS.1 (by rw [Nat.zero_add, List.getElem?_toArray]; exact hj))) ?_  -- trans.go:39 t53 := (Op.load 33 t14)
              refine AH.take 1 rfl (by kernel_rfl) (by kernel_rfl) (by kernel_rfl) (fun _ _ _ _ h => h) ⟨hBm, hT⟩ (by decide) (fun w hS => FA33_1 rfl) ?_  -- trans.go:39 t54 := (Op.fieldAddr 33 t14 1)
              refine AH.take 2 rfl (by kernel_rfl) (by kernel_rfl) (by kernel_rfl) (fun _ _ _ _ h => h) ⟨hBm, hT⟩ (by decide) (fun w hS => R.load (v := .bool true) Tryd.underlying4 rfl rfl (cell_at hS.1 (show _ = some (Value.bool true) from congrArg (fun b => some (Value.bool b)) h1))) ?_  -- trans.go:39 t55 := (Op.load 4 t54)
              refine AH.take 3 rfl (by kernel_rfl) (by kernel_rfl) (by kernel_rfl) (fun _ _ _ _ h => h) ⟨hBm, hT⟩ (by decide) (fun w hS => R.move rfl) ?_  -- trans.go:39 t56 := (Op.move t55)
              refine AH.takeG 4 rfl (by kernel_rfl) (by kernel_rfl) (by kernel_rfl) (fun _ _ _ _ h => h) ⟨hBm, hT⟩ (by decide) rfl rfl rfl (fun w hS => FA33_0 rfl) ?_  -- trans.go:39 t57 := (Op.fieldAddr 33 t14 0) [guard 3 true]
              refine AH.takeG 5 rfl (by kernel_rfl) (by kernel_rfl) (by kernel_rfl) (fun _ _ _ _ h => h) ⟨hBm, hT⟩ (by decide) rfl rfl rfl (fun w hS => R.load Tryd.underlying3 rfl rfl (cell_at hS.1 rfl)) ?_  -- trans.go:39 t58 := (Op.load 3 t57) [guard 3 true]
              refine AH.takeG 6 rfl (by kernel_rfl) (by kernel_rfl) (by kernel_rfl) (fun _ _ _ _ h => h) ⟨hBm, hT⟩ (by decide) rfl rfl rfl (fun w hS => FA29_4 rfl) ?_  -- trans.go:39 t59 := (Op.fieldAddr 29 t6 4) [guard 3 true]
              refine AH.takeG 7 rfl (by kernel_rfl) (by kernel_rfl) (by kernel_rfl) (fun _ _ _ _ h => h) ⟨hBm, hT⟩ (by decide) rfl rfl rfl (fun w hS => R.load Tryd.underlying3 rfl rfl (cell_at hS.2 (Tr.at20 h16))) ?_  -- trans.go:39 t60 := (Op.load 3 t59) [guard 3 true]
              refine AH.takeG 8 rfl (by kernel_rfl) (by kernel_rfl) (by kernel_rfl) (fun _ _ _ _ h => h) ⟨hBm, hT⟩ (by decide) rfl rfl rfl (fun w hS => R.eql rfl rfl (decide_eq_true h2)) ?_  -- trans.go:39 t61 := (Op.binOp BinOp.eql 3 t58 t60 3) [guard 3 true]
              refine AH.take 9 rfl (by kernel_rfl) (by kernel_rfl) (by kernel_rfl) (fun _ _ _ _ h => h) ⟨hBm, hT⟩ (by decide) (fun w hS => R.pickT rfl rfl) ?_  -- trans.go:39 t62 := (Op.pick t56 t61 c(Value.bool false))
              refine AH.take 10 rfl (by kernel_rfl) (by kernel_rfl) (by kernel_rfl) (fun _ _ _ _ h => h) ⟨hBm, hT⟩ (by decide) (fun w hS => R.move rfl) ?_  -- trans.go:39 t63 := (Op.move t62)
              refine AH.takeG 11 rfl (by kernel_rfl) (by kernel_rfl) (by kernel_rfl) (fun _ _ _ _ h => h) ⟨hBm, hT⟩ (by decide) rfl rfl rfl (fun w hS => FA33_5 rfl) ?_  -- trans.go:39 t64 := (Op.fieldAddr 33 t14 5) [guard 10 true]
              refine AH.takeG 12 rfl (by kernel_rfl) (by kernel_rfl) (by kernel_rfl) (fun _ _ _ _ h => h) ⟨hBm, hT⟩ (by decide) rfl rfl rfl (fun w hS => R.loadAgg1 (cs := [sv M.qname, .int .i64 M.qtype]) Tryd.underlying25 rfl sz25 rfl (fun j u hj => cell_at hS.1 (by match j, hj with | 0, hj => exact hj | 1, hj => exact hj))) ?_  -- trans.go:39 t65 := (Op.load 25 t64) [guard 10 true]
              refine AH.takeG 13 rfl (by kernel_rfl) (by kernel_rfl) (by kernel_rfl) (fun _ _ _ _ h => h) ⟨hBm, hT⟩ (by decide) rfl rfl rfl (fun w hS => FA29_0 rfl) ?_  -- trans.go:39 t66 := (Op.fieldAddr 29 t6 0) [guard 10 true]
              refine AH.takeG 14 rfl (by kernel_rfl) (by kernel_rfl) (by kernel_rfl) (fun _ _ _ _ h => h) ⟨hBm, hT⟩ (by decide) rfl rfl rfl (fun w hS => R.loadAgg1 (cs := [sv t.qname, .int .i64 t.qtype]) Tryd.underlying25 rfl sz25 rfl (fun j u hj => cell_at hS.2 (by match j, hj with | 0, hj => exact hj | 1, hj => exact hj))) ?_  -- trans.go:39 t67 := (Op.load 25 t66) [guard 10 true]
              refine AH.takeG 15 rfl (by kernel_rfl) (by kernel_rfl) (by kernel_rfl) (fun _ _ _ _ h => h) ⟨hBm, hT⟩ (by decide) rfl rfl rfl (fun w hS => R.eql25 (a := M.qname) (b := t.qname) (m := M.qtype) (n := t.qtype) rfl rfl (decide_eq_true h3)) ?_  -- trans.go:39 t68 := (Op.binOp BinOp.eql 25 t65 t67 25) [guard 10 true]
              refine AH.take 16 rfl (by kernel_rfl) (by kernel_rfl) (by kernel_rfl) (fun _ _ _ _ h => h) ⟨hBm, hT⟩ (by decide) (fun w hS => R.pickT rfl rfl) ?_  -- trans.go:39 t69 := (Op.pick t63 t68 c(Value.bool false))
              refine AH.eff 17 (by kernel_rfl) rfl rfl (OP.storeAgg inf33.choose_spec.1 (by rw [inf33.choose_spec.2]; rfl) rfl rfl (m_all _ _ _ _ _ _ _) hR rfl ?_)
              intro w7 hc7 hs7 hR
              have hC := (hC.trans (Chg.drew _ _)).then hc7 (fun k hk e => by omega)
              have hC2 : Chg (fun k => k = br) w4 w7 := ((hc46.trans (Chg.drew _ _)).mono (fun _ _ e => e.elim)).then hc7 (fun k hk e => e)
              have hS2 := (show _ ∧ _ from ⟨hc7.at hBm (fun e => by omega), hc7.at hT (fun e => by omega)⟩)
              refine ⟨hS2, ?_⟩
              refine AH.take 18 rfl (by kernel_rfl) (by kernel_rfl) (by kernel_rfl) (fun _ _ _ _ h => h) hS2 (by decide) (fun w hS => R.assign rfl) ?_  -- trans.go:39 t13 := (Op.assign t69)
              refine AH.done (by kernel_rfl) ?_
              have hans : ansT t M = true := by unfold ansT; simp [h1, h2, h3.1, h3.2]
              refine EW.next ?_
              refine CW.ret ?_
              exact EW.retCT (.inl rfl) rfl rfl rfl (cs := M.cells (.slice Aa M.ans.length ca) (.slice Ab M.auth.length cb)) Tryd.underlying33 rfl sz33 (fun j u hj => cell_at hR (by rw [List.getElem?_toArray]; exact hj)) ⟨hC, by show MatchRes _ _ _ _ _ _ (some M) _ _; unfold MatchRes; simp only; rw [if_pos (by unfold passT; rw [decide_eq_true (show link = t.link by omega), decide_eq_true (show gen = t.gen by omega), decide_eq_true (show port = t.port by omega)]; simp [*])]; exact ⟨_, by rw [show ansT t M = _ from hans], _, _, rfl, hva.kept hC2 (fun k hk e => by have := hfa k hk; omega), hvb.kept hC2 (fun k hk e => by have := hfb k hk; omega), fun k hk => by have := hfa k hk; have := hc13.size; omega, fun k hk => by have := hfb k hk; have := hc13.size; omega⟩⟩
end Go.Proofs.YthcpjcgjmdfpjaaDoor
