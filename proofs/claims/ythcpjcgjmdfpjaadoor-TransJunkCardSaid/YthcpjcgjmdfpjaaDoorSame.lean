/- Same: are two messages the same? -/
import Derived.Test.YthcpjcgjmdfpjaaDoorMatch
namespace Go.Proofs.YthcpjcgjmdfpjaaDoor
open Go Go.RowKit
set_option maxRecDepth 100000
set_option maxHeartbeats 4000000

/-- Are they the same? -/
noncomputable def sameM (a b : Msg) : Bool := @decide (a = b) (Classical.propDecidable _)
theorem sameM_no {a b : Msg} (h : ¬ a = b) : sameM a b = false := by unfold sameM; simp [h]
theorem sameM_self (a : Msg) : sameM a a = true := by unfold sameM; simp
theorem sameM_eq {a b : Msg} (h : sameM a b = true) : a = b := by unfold sameM at h; simpa using h
theorem sameM_yes {a b : Msg} (h1 : a.id = b.id) (h2 : a.reply = b.reply) (h3 : a.trunc = b.trunc) (h4 : a.recur = b.recur) (h5 : a.code = b.code) (h6 : a.qname = b.qname ∧ a.qtype = b.qtype) (h7 : a.ans = b.ans) (h8 : a.auth = b.auth) : sameM a b = true := by
  have : a = b := by
    cases a; cases b
    simp only at h1 h2 h3 h4 h5 h6 h7 h8
    obtain ⟨h6, h9⟩ := h6
    subst h1 h2 h3 h4 h5 h6 h7 h8 h9
    rfl
  rw [this]; exact sameM_self b
theorem R.neqBD {l : Env} {w : World} {x y : Operand} {ty : TypeId} {a b : Bool} (hx : ev l x = some (.bool a)) (hy : ev l y = some (.bool b)) : Runs Tryd.prog l (.binOp .neq 4 x y ty) w (.bool (decide (¬ a = b))) w :=
  R.neqB hx hy (by cases a <;> cases b <;> rfl)
theorem R.neq25D {l : Env} {w : World} {x y : Operand} {ty : TypeId} {a b : List UInt8} {m n : Int} (hx : ev l x = some (.agg #[sv a, .int .i64 m])) (hy : ev l y = some (.agg #[sv b, .int .i64 n])) : Runs Tryd.prog l (.binOp .neq 25 x y ty) w (.bool (decide (¬ (a = b ∧ m = n)))) w :=
  R.neq25 hx hy (by by_cases h : a = b ∧ m = n <;> simp [h])
theorem take_next {α : Type} {p q : List α} {j : Nat} {x y : α} (h : p.take j = q.take j) (hx : p[j]? = some x) (hy : q[j]? = some y) (e : x = y) : p.take (j + 1) = q.take (j + 1) := by
  rw [List.take_add_one, List.take_add_one, h, hx, hy, e]
theorem same_any (a b : Msg) (va vb : Value) (w0 : World) (ha : MV w0 va a) (hb : MV w0 vb b) (hn1 : a.ans.length ≤ 1099511627776) (hn2 : a.auth.length ≤ 1099511627776) :
    Calls Tryd.prog 25 #[va, vb] w0 fun e w' => e = .returned (.bool (sameM a b)) ∧ Chg (fun _ => False) w0 w' := by
  obtain ⟨ua, ub, rfl, hAa, hBa⟩ := ha
  obtain ⟨uc, ud, rfl, hAb, hBb⟩ := hb
  obtain ⟨Aa, ca, rfl, _⟩ := hAa.form
  obtain ⟨Ba, da, rfl, _⟩ := hBa.form
  obtain ⟨Ab, cb, rfl, _⟩ := hAb.form
  obtain ⟨Bb, db, rfl, _⟩ := hBb.form
  refine calls_cw (args := [.agg (a.cells (.slice Aa a.ans.length ca) (.slice Ba a.auth.length da)).toArray, .agg (b.cells (.slice Ab b.ans.length cb) (.slice Bb b.auth.length db)).toArray]) Tryd.func25 rfl rfl ?_
  show CW _ _ _ 101 [(0, .agg (a.cells (.slice Aa a.ans.length ca) (.slice Ba a.auth.length da)).toArray), (1, .agg (b.cells (.slice Ab b.ans.length cb) (.slice Bb b.auth.length db)).toArray)] w0
  refine CW.rseq ?_  -- region 0
  refine WL.eff rfl (OP.box (by decide) rfl ?_)
  intro w1 hc1 hs1 hA0
  obtain ⟨ba, he_ba⟩ : ∃ q, q = w0.heap.size := ⟨_, rfl⟩
  rw [← he_ba] at hA0 ⊢
  have hA := hA0
  refine WL.eff rfl (OP.box (by decide) rfl ?_)
  intro w2 hc2 hs2 hB0
  obtain ⟨bb, he_bb⟩ : ∃ q, q = w1.heap.size := ⟨_, rfl⟩
  rw [← he_bb] at hB0 ⊢
  have hB := hB0
  have hA := hc2.at hA (fun e => e)
  have hC := hc1.trans hc2
  have hAa := hAa.kept hC (fun _ _ e => e)
  have hBa := hBa.kept hC (fun _ _ e => e)
  have hAb := hAb.kept hC (fun _ _ e => e)
  have hBb := hBb.kept hC (fun _ _ e => e)
  refine WL.op (by decide) (R.assign rfl) ?_  -- law.go:69 t4 := (Op.assign c(Value.bool false))
  refine WL.next ?_
  refine CW.seq ?_
  refine CW.rseq ?_  -- region 1
  refine WL.op (by decide) (FA33_0 rfl) ?_  -- law.go:70 t7 := (Op.fieldAddr 33 t2 0)
  refine WL.op (by decide) (R.load Tryd.underlying3 rfl rfl (cell_at hA rfl)) ?_  -- law.go:70 t8 := (Op.load 3 t7)
  refine WL.op (by decide) (FA33_0 rfl) ?_  -- law.go:70 t9 := (Op.fieldAddr 33 t3 0)
  refine WL.op (by decide) (R.load Tryd.underlying3 rfl rfl (cell_at hB rfl)) ?_  -- law.go:70 t10 := (Op.load 3 t9)
  refine WL.neqS (by decide) rfl rfl (fun h1 => ?_) (fun h1 => ?_)  -- law.go:70 t11 := (Op.binOp BinOp.neq 3 t8 t10 3)
  · skip
    refine WL.op (by decide) (R.move rfl) ?_  -- law.go:70 t12 := (Op.move t11)
    refine WL.pass (by decide) rfl rfl rfl ?_  -- law.go:70 t13 := (Op.fieldAddr 33 t2 1) [guard 5 false]
    refine WL.pass (by decide) rfl rfl rfl ?_  -- law.go:70 t14 := (Op.load 4 t13) [guard 5 false]
    refine WL.pass (by decide) rfl rfl rfl ?_  -- law.go:70 t15 := (Op.fieldAddr 33 t3 1) [guard 5 false]
    refine WL.pass (by decide) rfl rfl rfl ?_  -- law.go:70 t16 := (Op.load 4 t15) [guard 5 false]
    refine WL.pass (by decide) rfl rfl rfl ?_  -- law.go:70 t17 := (Op.binOp BinOp.neq 4 t14 t16 4) [guard 5 false]
    refine WL.op (by decide) (R.pickT rfl rfl) ?_  -- law.go:70 t18 := (Op.pick t12 c(Value.bool true) t17)
    refine WL.op (by decide) (R.move rfl) ?_  -- law.go:70 t19 := (Op.move t18)
    refine WL.pass (by decide) rfl rfl rfl ?_  -- law.go:70 t20 := (Op.fieldAddr 33 t2 2) [guard 12 false]
    refine WL.pass (by decide) rfl rfl rfl ?_  -- law.go:70 t21 := (Op.load 4 t20) [guard 12 false]
    refine WL.pass (by decide) rfl rfl rfl ?_  -- law.go:70 t22 := (Op.fieldAddr 33 t3 2) [guard 12 false]
    refine WL.pass (by decide) rfl rfl rfl ?_  -- law.go:70 t23 := (Op.load 4 t22) [guard 12 false]
    refine WL.pass (by decide) rfl rfl rfl ?_  -- law.go:70 t24 := (Op.binOp BinOp.neq 4 t21 t23 4) [guard 12 false]
    refine WL.op (by decide) (R.pickT rfl rfl) ?_  -- law.go:70 t25 := (Op.pick t19 c(Value.bool true) t24)
    refine WL.op (by decide) (R.move rfl) ?_  -- law.go:70 t26 := (Op.move t25)
    refine WL.pass (by decide) rfl rfl rfl ?_  -- law.go:70 t27 := (Op.fieldAddr 33 t2 3) [guard 19 false]
    refine WL.pass (by decide) rfl rfl rfl ?_  -- law.go:70 t28 := (Op.load 4 t27) [guard 19 false]
    refine WL.pass (by decide) rfl rfl rfl ?_  -- law.go:70 t29 := (Op.fieldAddr 33 t3 3) [guard 19 false]
    refine WL.pass (by decide) rfl rfl rfl ?_  -- law.go:70 t30 := (Op.load 4 t29) [guard 19 false]
    refine WL.pass (by decide) rfl rfl rfl ?_  -- law.go:70 t31 := (Op.binOp BinOp.neq 4 t28 t30 4) [guard 19 false]
    refine WL.op (by decide) (R.pickT rfl rfl) ?_  -- law.go:70 t32 := (Op.pick t26 c(Value.bool true) t31)
    refine WL.op (by decide) (R.move rfl) ?_  -- law.go:70 t33 := (Op.move t32)
    refine WL.pass (by decide) rfl rfl rfl ?_  -- law.go:70 t34 := (Op.fieldAddr 33 t2 4) [guard 26 false]
    refine WL.pass (by decide) rfl rfl rfl ?_  -- law.go:70 t35 := (Op.load 3 t34) [guard 26 false]
    refine WL.pass (by decide) rfl rfl rfl ?_  -- law.go:70 t36 := (Op.fieldAddr 33 t3 4) [guard 26 false]
    refine WL.pass (by decide) rfl rfl rfl ?_  -- law.go:70 t37 := (Op.load 3 t36) [guard 26 false]
    refine WL.pass (by decide) rfl rfl rfl ?_  -- law.go:70 t38 := (Op.binOp BinOp.neq 3 t35 t37 3) [guard 26 false]
    refine WL.op (by decide) (R.pickT rfl rfl) ?_  -- law.go:70 t39 := (Op.pick t33 c(Value.bool true) t38)
    refine WL.op (by decide) (R.move rfl) ?_  -- law.go:70 t40 := (Op.move t39)
    refine WL.pass (by decide) rfl rfl rfl ?_  -- law.go:70 t41 := (Op.fieldAddr 33 t2 5) [guard 33 false]
    refine WL.pass (by decide) rfl rfl rfl ?_  -- law.go:70 t42 := (Op.load 25 t41) [guard 33 false]
    refine WL.pass (by decide) rfl rfl rfl ?_  -- law.go:70 t43 := (Op.fieldAddr 33 t3 5) [guard 33 false]
    refine WL.pass (by decide) rfl rfl rfl ?_  -- law.go:70 t44 := (Op.load 25 t43) [guard 33 false]
    refine WL.pass (by decide) rfl rfl rfl ?_  -- law.go:70 t45 := (Op.binOp BinOp.neq 25 t42 t44 25) [guard 33 false]
    refine WL.op (by decide) (R.pickT rfl rfl) ?_  -- law.go:70 t46 := (Op.pick t40 c(Value.bool true) t45)
    refine WL.op (by decide) (R.move rfl) ?_  -- law.go:70 t47 := (Op.move t46)
    refine WL.pass (by decide) rfl rfl rfl ?_  -- law.go:70 t48 := (Op.fieldAddr 33 t2 6) [guard 40 false]
    refine WL.pass (by decide) rfl rfl rfl ?_  -- law.go:70 t49 := (Op.load 31 t48) [guard 40 false]
    refine WL.pass (by decide) rfl rfl rfl ?_  -- law.go:70 t50 := (Op.call (Call.mk (Callee.builtin Builtin.len) [t49] [31])) [guard 40 false]
    refine WL.pass (by decide) rfl rfl rfl ?_  -- law.go:70 t51 := (Op.fieldAddr 33 t3 6) [guard 40 false]
    refine WL.pass (by decide) rfl rfl rfl ?_  -- law.go:70 t52 := (Op.load 31 t51) [guard 40 false]
    refine WL.pass (by decide) rfl rfl rfl ?_  -- law.go:70 t53 := (Op.call (Call.mk (Callee.builtin Builtin.len) [t52] [31])) [guard 40 false]
    refine WL.pass (by decide) rfl rfl rfl ?_  -- law.go:70 t54 := (Op.binOp BinOp.neq 3 t50 t53 3) [guard 40 false]
    refine WL.op (by decide) (R.pickT rfl rfl) ?_  -- law.go:70 t55 := (Op.pick t47 c(Value.bool true) t54)
    refine WL.op (by decide) (R.move rfl) ?_  -- law.go:70 t56 := (Op.move t55)
    refine WL.pass (by decide) rfl rfl rfl ?_  -- law.go:70 t57 := (Op.fieldAddr 33 t2 7) [guard 49 false]
    refine WL.pass (by decide) rfl rfl rfl ?_  -- law.go:70 t58 := (Op.load 31 t57) [guard 49 false]
    refine WL.pass (by decide) rfl rfl rfl ?_  -- law.go:70 t59 := (Op.call (Call.mk (Callee.builtin Builtin.len) [t58] [31])) [guard 49 false]
    refine WL.pass (by decide) rfl rfl rfl ?_  -- law.go:70 t60 := (Op.fieldAddr 33 t3 7) [guard 49 false]
    refine WL.pass (by decide) rfl rfl rfl ?_  -- law.go:70 t61 := (Op.load 31 t60) [guard 49 false]
    refine WL.pass (by decide) rfl rfl rfl ?_  -- law.go:70 t62 := (Op.call (Call.mk (Callee.builtin Builtin.len) [t61] [31])) [guard 49 false]
    refine WL.pass (by decide) rfl rfl rfl ?_  -- law.go:70 t63 := (Op.binOp BinOp.neq 3 t59 t62 3) [guard 49 false]
    refine WL.op (by decide) (R.pickT rfl rfl) ?_  -- law.go:70 t64 := (Op.pick t56 c(Value.bool true) t63)
    refine WL.next ?_
    refine CW.condT rfl ?_
    refine CW.rseq ?_  -- region 2
    refine WL.op (by decide) (R.assign rfl) ?_  -- law.go:71 t4 := (Op.assign c(Value.bool false))
    refine WL.next ?_
    refine CW.ret ?_
    refine EW.thenRet ?_
    refine EW.ret1 (.inl rfl) rfl rfl ⟨congrArg (fun b => Ending.returned (.bool b)) (sameM_no (fun e => ?_)).symm, hC⟩
    subst e
    simp_all
  · skip
    refine WL.op (by decide) (R.move rfl) ?_  -- law.go:70 t12 := (Op.move t11)
    refine WL.gop (by decide) rfl rfl rfl (FA33_1 rfl) ?_  -- law.go:70 t13 := (Op.fieldAddr 33 t2 1) [guard 5 false]
    refine WL.gop (by decide) rfl rfl rfl (R.load Tryd.underlying4 rfl rfl (cell_at hA rfl)) ?_  -- law.go:70 t14 := (Op.load 4 t13) [guard 5 false]
    refine WL.gop (by decide) rfl rfl rfl (FA33_1 rfl) ?_  -- law.go:70 t15 := (Op.fieldAddr 33 t3 1) [guard 5 false]
    refine WL.gop (by decide) rfl rfl rfl (R.load Tryd.underlying4 rfl rfl (cell_at hB rfl)) ?_  -- law.go:70 t16 := (Op.load 4 t15) [guard 5 false]
    refine WL.gsplit _ (by decide) rfl rfl rfl (R.neqBD (a := a.reply) (b := b.reply) rfl rfl) (fun h2 => ?_) (fun h2 => ?_)  -- law.go:70 t17 := (Op.binOp BinOp.neq 4 t14 t16 4) [guard 5 false]
    · skip
      refine WL.op (by decide) (R.pickF rfl rfl) ?_  -- law.go:70 t18 := (Op.pick t12 c(Value.bool true) t17)
      refine WL.op (by decide) (R.move rfl) ?_  -- law.go:70 t19 := (Op.move t18)
      refine WL.pass (by decide) rfl rfl rfl ?_  -- law.go:70 t20 := (Op.fieldAddr 33 t2 2) [guard 12 false]
      refine WL.pass (by decide) rfl rfl rfl ?_  -- law.go:70 t21 := (Op.load 4 t20) [guard 12 false]
      refine WL.pass (by decide) rfl rfl rfl ?_  -- law.go:70 t22 := (Op.fieldAddr 33 t3 2) [guard 12 false]
      refine WL.pass (by decide) rfl rfl rfl ?_  -- law.go:70 t23 := (Op.load 4 t22) [guard 12 false]
      refine WL.pass (by decide) rfl rfl rfl ?_  -- law.go:70 t24 := (Op.binOp BinOp.neq 4 t21 t23 4) [guard 12 false]
      refine WL.op (by decide) (R.pickT rfl rfl) ?_  -- law.go:70 t25 := (Op.pick t19 c(Value.bool true) t24)
      refine WL.op (by decide) (R.move rfl) ?_  -- law.go:70 t26 := (Op.move t25)
      refine WL.pass (by decide) rfl rfl rfl ?_  -- law.go:70 t27 := (Op.fieldAddr 33 t2 3) [guard 19 false]
      refine WL.pass (by decide) rfl rfl rfl ?_  -- law.go:70 t28 := (Op.load 4 t27) [guard 19 false]
      refine WL.pass (by decide) rfl rfl rfl ?_  -- law.go:70 t29 := (Op.fieldAddr 33 t3 3) [guard 19 false]
      refine WL.pass (by decide) rfl rfl rfl ?_  -- law.go:70 t30 := (Op.load 4 t29) [guard 19 false]
      refine WL.pass (by decide) rfl rfl rfl ?_  -- law.go:70 t31 := (Op.binOp BinOp.neq 4 t28 t30 4) [guard 19 false]
      refine WL.op (by decide) (R.pickT rfl rfl) ?_  -- law.go:70 t32 := (Op.pick t26 c(Value.bool true) t31)
      refine WL.op (by decide) (R.move rfl) ?_  -- law.go:70 t33 := (Op.move t32)
      refine WL.pass (by decide) rfl rfl rfl ?_  -- law.go:70 t34 := (Op.fieldAddr 33 t2 4) [guard 26 false]
      refine WL.pass (by decide) rfl rfl rfl ?_  -- law.go:70 t35 := (Op.load 3 t34) [guard 26 false]
      refine WL.pass (by decide) rfl rfl rfl ?_  -- law.go:70 t36 := (Op.fieldAddr 33 t3 4) [guard 26 false]
      refine WL.pass (by decide) rfl rfl rfl ?_  -- law.go:70 t37 := (Op.load 3 t36) [guard 26 false]
      refine WL.pass (by decide) rfl rfl rfl ?_  -- law.go:70 t38 := (Op.binOp BinOp.neq 3 t35 t37 3) [guard 26 false]
      refine WL.op (by decide) (R.pickT rfl rfl) ?_  -- law.go:70 t39 := (Op.pick t33 c(Value.bool true) t38)
      refine WL.op (by decide) (R.move rfl) ?_  -- law.go:70 t40 := (Op.move t39)
      refine WL.pass (by decide) rfl rfl rfl ?_  -- law.go:70 t41 := (Op.fieldAddr 33 t2 5) [guard 33 false]
      refine WL.pass (by decide) rfl rfl rfl ?_  -- law.go:70 t42 := (Op.load 25 t41) [guard 33 false]
      refine WL.pass (by decide) rfl rfl rfl ?_  -- law.go:70 t43 := (Op.fieldAddr 33 t3 5) [guard 33 false]
      refine WL.pass (by decide) rfl rfl rfl ?_  -- law.go:70 t44 := (Op.load 25 t43) [guard 33 false]
      refine WL.pass (by decide) rfl rfl rfl ?_  -- law.go:70 t45 := (Op.binOp BinOp.neq 25 t42 t44 25) [guard 33 false]
      refine WL.op (by decide) (R.pickT rfl rfl) ?_  -- law.go:70 t46 := (Op.pick t40 c(Value.bool true) t45)
      refine WL.op (by decide) (R.move rfl) ?_  -- law.go:70 t47 := (Op.move t46)
      refine WL.pass (by decide) rfl rfl rfl ?_  -- law.go:70 t48 := (Op.fieldAddr 33 t2 6) [guard 40 false]
      refine WL.pass (by decide) rfl rfl rfl ?_  -- law.go:70 t49 := (Op.load 31 t48) [guard 40 false]
      refine WL.pass (by decide) rfl rfl rfl ?_  -- law.go:70 t50 := (Op.call (Call.mk (Callee.builtin Builtin.len) [t49] [31])) [guard 40 false]
      refine WL.pass (by decide) rfl rfl rfl ?_  -- law.go:70 t51 := (Op.fieldAddr 33 t3 6) [guard 40 false]
      refine WL.pass (by decide) rfl rfl rfl ?_  -- law.go:70 t52 := (Op.load 31 t51) [guard 40 false]
      refine WL.pass (by decide) rfl rfl rfl ?_  -- law.go:70 t53 := (Op.call (Call.mk (Callee.builtin Builtin.len) [t52] [31])) [guard 40 false]
      refine WL.pass (by decide) rfl rfl rfl ?_  -- law.go:70 t54 := (Op.binOp BinOp.neq 3 t50 t53 3) [guard 40 false]
      refine WL.op (by decide) (R.pickT rfl rfl) ?_  -- law.go:70 t55 := (Op.pick t47 c(Value.bool true) t54)
      refine WL.op (by decide) (R.move rfl) ?_  -- law.go:70 t56 := (Op.move t55)
      refine WL.pass (by decide) rfl rfl rfl ?_  -- law.go:70 t57 := (Op.fieldAddr 33 t2 7) [guard 49 false]
      refine WL.pass (by decide) rfl rfl rfl ?_  -- law.go:70 t58 := (Op.load 31 t57) [guard 49 false]
      refine WL.pass (by decide) rfl rfl rfl ?_  -- law.go:70 t59 := (Op.call (Call.mk (Callee.builtin Builtin.len) [t58] [31])) [guard 49 false]
      refine WL.pass (by decide) rfl rfl rfl ?_  -- law.go:70 t60 := (Op.fieldAddr 33 t3 7) [guard 49 false]
      refine WL.pass (by decide) rfl rfl rfl ?_  -- law.go:70 t61 := (Op.load 31 t60) [guard 49 false]
      refine WL.pass (by decide) rfl rfl rfl ?_  -- law.go:70 t62 := (Op.call (Call.mk (Callee.builtin Builtin.len) [t61] [31])) [guard 49 false]
      refine WL.pass (by decide) rfl rfl rfl ?_  -- law.go:70 t63 := (Op.binOp BinOp.neq 3 t59 t62 3) [guard 49 false]
      refine WL.op (by decide) (R.pickT rfl rfl) ?_  -- law.go:70 t64 := (Op.pick t56 c(Value.bool true) t63)
      refine WL.next ?_
      refine CW.condT rfl ?_
      refine CW.rseq ?_  -- region 2
      refine WL.op (by decide) (R.assign rfl) ?_  -- law.go:71 t4 := (Op.assign c(Value.bool false))
      refine WL.next ?_
      refine CW.ret ?_
      refine EW.thenRet ?_
      refine EW.ret1 (.inl rfl) rfl rfl ⟨congrArg (fun b => Ending.returned (.bool b)) (sameM_no (fun e => ?_)).symm, hC⟩
      subst e
      simp_all
    · skip
      refine WL.op (by decide) (R.pickF rfl rfl) ?_  -- law.go:70 t18 := (Op.pick t12 c(Value.bool true) t17)
      refine WL.op (by decide) (R.move rfl) ?_  -- law.go:70 t19 := (Op.move t18)
      refine WL.gop (by decide) rfl rfl rfl (FA33_2 rfl) ?_  -- law.go:70 t20 := (Op.fieldAddr 33 t2 2) [guard 12 false]
      refine WL.gop (by decide) rfl rfl rfl (R.load Tryd.underlying4 rfl rfl (cell_at hA rfl)) ?_  -- law.go:70 t21 := (Op.load 4 t20) [guard 12 false]
      refine WL.gop (by decide) rfl rfl rfl (FA33_2 rfl) ?_  -- law.go:70 t22 := (Op.fieldAddr 33 t3 2) [guard 12 false]
      refine WL.gop (by decide) rfl rfl rfl (R.load Tryd.underlying4 rfl rfl (cell_at hB rfl)) ?_  -- law.go:70 t23 := (Op.load 4 t22) [guard 12 false]
      refine WL.gsplit _ (by decide) rfl rfl rfl (R.neqBD (a := a.trunc) (b := b.trunc) rfl rfl) (fun h3 => ?_) (fun h3 => ?_)  -- law.go:70 t24 := (Op.binOp BinOp.neq 4 t21 t23 4) [guard 12 false]
      · skip
        refine WL.op (by decide) (R.pickF rfl rfl) ?_  -- law.go:70 t25 := (Op.pick t19 c(Value.bool true) t24)
        refine WL.op (by decide) (R.move rfl) ?_  -- law.go:70 t26 := (Op.move t25)
        refine WL.pass (by decide) rfl rfl rfl ?_  -- law.go:70 t27 := (Op.fieldAddr 33 t2 3) [guard 19 false]
        refine WL.pass (by decide) rfl rfl rfl ?_  -- law.go:70 t28 := (Op.load 4 t27) [guard 19 false]
        refine WL.pass (by decide) rfl rfl rfl ?_  -- law.go:70 t29 := (Op.fieldAddr 33 t3 3) [guard 19 false]
        refine WL.pass (by decide) rfl rfl rfl ?_  -- law.go:70 t30 := (Op.load 4 t29) [guard 19 false]
        refine WL.pass (by decide) rfl rfl rfl ?_  -- law.go:70 t31 := (Op.binOp BinOp.neq 4 t28 t30 4) [guard 19 false]
        refine WL.op (by decide) (R.pickT rfl rfl) ?_  -- law.go:70 t32 := (Op.pick t26 c(Value.bool true) t31)
        refine WL.op (by decide) (R.move rfl) ?_  -- law.go:70 t33 := (Op.move t32)
        refine WL.pass (by decide) rfl rfl rfl ?_  -- law.go:70 t34 := (Op.fieldAddr 33 t2 4) [guard 26 false]
        refine WL.pass (by decide) rfl rfl rfl ?_  -- law.go:70 t35 := (Op.load 3 t34) [guard 26 false]
        refine WL.pass (by decide) rfl rfl rfl ?_  -- law.go:70 t36 := (Op.fieldAddr 33 t3 4) [guard 26 false]
        refine WL.pass (by decide) rfl rfl rfl ?_  -- law.go:70 t37 := (Op.load 3 t36) [guard 26 false]
        refine WL.pass (by decide) rfl rfl rfl ?_  -- law.go:70 t38 := (Op.binOp BinOp.neq 3 t35 t37 3) [guard 26 false]
        refine WL.op (by decide) (R.pickT rfl rfl) ?_  -- law.go:70 t39 := (Op.pick t33 c(Value.bool true) t38)
        refine WL.op (by decide) (R.move rfl) ?_  -- law.go:70 t40 := (Op.move t39)
        refine WL.pass (by decide) rfl rfl rfl ?_  -- law.go:70 t41 := (Op.fieldAddr 33 t2 5) [guard 33 false]
        refine WL.pass (by decide) rfl rfl rfl ?_  -- law.go:70 t42 := (Op.load 25 t41) [guard 33 false]
        refine WL.pass (by decide) rfl rfl rfl ?_  -- law.go:70 t43 := (Op.fieldAddr 33 t3 5) [guard 33 false]
        refine WL.pass (by decide) rfl rfl rfl ?_  -- law.go:70 t44 := (Op.load 25 t43) [guard 33 false]
        refine WL.pass (by decide) rfl rfl rfl ?_  -- law.go:70 t45 := (Op.binOp BinOp.neq 25 t42 t44 25) [guard 33 false]
        refine WL.op (by decide) (R.pickT rfl rfl) ?_  -- law.go:70 t46 := (Op.pick t40 c(Value.bool true) t45)
        refine WL.op (by decide) (R.move rfl) ?_  -- law.go:70 t47 := (Op.move t46)
        refine WL.pass (by decide) rfl rfl rfl ?_  -- law.go:70 t48 := (Op.fieldAddr 33 t2 6) [guard 40 false]
        refine WL.pass (by decide) rfl rfl rfl ?_  -- law.go:70 t49 := (Op.load 31 t48) [guard 40 false]
        refine WL.pass (by decide) rfl rfl rfl ?_  -- law.go:70 t50 := (Op.call (Call.mk (Callee.builtin Builtin.len) [t49] [31])) [guard 40 false]
        refine WL.pass (by decide) rfl rfl rfl ?_  -- law.go:70 t51 := (Op.fieldAddr 33 t3 6) [guard 40 false]
        refine WL.pass (by decide) rfl rfl rfl ?_  -- law.go:70 t52 := (Op.load 31 t51) [guard 40 false]
        refine WL.pass (by decide) rfl rfl rfl ?_  -- law.go:70 t53 := (Op.call (Call.mk (Callee.builtin Builtin.len) [t52] [31])) [guard 40 false]
        refine WL.pass (by decide) rfl rfl rfl ?_  -- law.go:70 t54 := (Op.binOp BinOp.neq 3 t50 t53 3) [guard 40 false]
        refine WL.op (by decide) (R.pickT rfl rfl) ?_  -- law.go:70 t55 := (Op.pick t47 c(Value.bool true) t54)
        refine WL.op (by decide) (R.move rfl) ?_  -- law.go:70 t56 := (Op.move t55)
        refine WL.pass (by decide) rfl rfl rfl ?_  -- law.go:70 t57 := (Op.fieldAddr 33 t2 7) [guard 49 false]
        refine WL.pass (by decide) rfl rfl rfl ?_  -- law.go:70 t58 := (Op.load 31 t57) [guard 49 false]
        refine WL.pass (by decide) rfl rfl rfl ?_  -- law.go:70 t59 := (Op.call (Call.mk (Callee.builtin Builtin.len) [t58] [31])) [guard 49 false]
        refine WL.pass (by decide) rfl rfl rfl ?_  -- law.go:70 t60 := (Op.fieldAddr 33 t3 7) [guard 49 false]
        refine WL.pass (by decide) rfl rfl rfl ?_  -- law.go:70 t61 := (Op.load 31 t60) [guard 49 false]
        refine WL.pass (by decide) rfl rfl rfl ?_  -- law.go:70 t62 := (Op.call (Call.mk (Callee.builtin Builtin.len) [t61] [31])) [guard 49 false]
        refine WL.pass (by decide) rfl rfl rfl ?_  -- law.go:70 t63 := (Op.binOp BinOp.neq 3 t59 t62 3) [guard 49 false]
        refine WL.op (by decide) (R.pickT rfl rfl) ?_  -- law.go:70 t64 := (Op.pick t56 c(Value.bool true) t63)
        refine WL.next ?_
        refine CW.condT rfl ?_
        refine CW.rseq ?_  -- region 2
        refine WL.op (by decide) (R.assign rfl) ?_  -- law.go:71 t4 := (Op.assign c(Value.bool false))
        refine WL.next ?_
        refine CW.ret ?_
        refine EW.thenRet ?_
        refine EW.ret1 (.inl rfl) rfl rfl ⟨congrArg (fun b => Ending.returned (.bool b)) (sameM_no (fun e => ?_)).symm, hC⟩
        subst e
        simp_all
      · skip
        refine WL.op (by decide) (R.pickF rfl rfl) ?_  -- law.go:70 t25 := (Op.pick t19 c(Value.bool true) t24)
        refine WL.op (by decide) (R.move rfl) ?_  -- law.go:70 t26 := (Op.move t25)
        refine WL.gop (by decide) rfl rfl rfl (FA33_3 rfl) ?_  -- law.go:70 t27 := (Op.fieldAddr 33 t2 3) [guard 19 false]
        refine WL.gop (by decide) rfl rfl rfl (R.load Tryd.underlying4 rfl rfl (cell_at hA rfl)) ?_  -- law.go:70 t28 := (Op.load 4 t27) [guard 19 false]
        refine WL.gop (by decide) rfl rfl rfl (FA33_3 rfl) ?_  -- law.go:70 t29 := (Op.fieldAddr 33 t3 3) [guard 19 false]
        refine WL.gop (by decide) rfl rfl rfl (R.load Tryd.underlying4 rfl rfl (cell_at hB rfl)) ?_  -- law.go:70 t30 := (Op.load 4 t29) [guard 19 false]
        refine WL.gsplit _ (by decide) rfl rfl rfl (R.neqBD (a := a.recur) (b := b.recur) rfl rfl) (fun h4 => ?_) (fun h4 => ?_)  -- law.go:70 t31 := (Op.binOp BinOp.neq 4 t28 t30 4) [guard 19 false]
        · skip
          refine WL.op (by decide) (R.pickF rfl rfl) ?_  -- law.go:70 t32 := (Op.pick t26 c(Value.bool true) t31)
          refine WL.op (by decide) (R.move rfl) ?_  -- law.go:70 t33 := (Op.move t32)
          refine WL.pass (by decide) rfl rfl rfl ?_  -- law.go:70 t34 := (Op.fieldAddr 33 t2 4) [guard 26 false]
          refine WL.pass (by decide) rfl rfl rfl ?_  -- law.go:70 t35 := (Op.load 3 t34) [guard 26 false]
          refine WL.pass (by decide) rfl rfl rfl ?_  -- law.go:70 t36 := (Op.fieldAddr 33 t3 4) [guard 26 false]
          refine WL.pass (by decide) rfl rfl rfl ?_  -- law.go:70 t37 := (Op.load 3 t36) [guard 26 false]
          refine WL.pass (by decide) rfl rfl rfl ?_  -- law.go:70 t38 := (Op.binOp BinOp.neq 3 t35 t37 3) [guard 26 false]
          refine WL.op (by decide) (R.pickT rfl rfl) ?_  -- law.go:70 t39 := (Op.pick t33 c(Value.bool true) t38)
          refine WL.op (by decide) (R.move rfl) ?_  -- law.go:70 t40 := (Op.move t39)
          refine WL.pass (by decide) rfl rfl rfl ?_  -- law.go:70 t41 := (Op.fieldAddr 33 t2 5) [guard 33 false]
          refine WL.pass (by decide) rfl rfl rfl ?_  -- law.go:70 t42 := (Op.load 25 t41) [guard 33 false]
          refine WL.pass (by decide) rfl rfl rfl ?_  -- law.go:70 t43 := (Op.fieldAddr 33 t3 5) [guard 33 false]
          refine WL.pass (by decide) rfl rfl rfl ?_  -- law.go:70 t44 := (Op.load 25 t43) [guard 33 false]
          refine WL.pass (by decide) rfl rfl rfl ?_  -- law.go:70 t45 := (Op.binOp BinOp.neq 25 t42 t44 25) [guard 33 false]
          refine WL.op (by decide) (R.pickT rfl rfl) ?_  -- law.go:70 t46 := (Op.pick t40 c(Value.bool true) t45)
          refine WL.op (by decide) (R.move rfl) ?_  -- law.go:70 t47 := (Op.move t46)
          refine WL.pass (by decide) rfl rfl rfl ?_  -- law.go:70 t48 := (Op.fieldAddr 33 t2 6) [guard 40 false]
          refine WL.pass (by decide) rfl rfl rfl ?_  -- law.go:70 t49 := (Op.load 31 t48) [guard 40 false]
          refine WL.pass (by decide) rfl rfl rfl ?_  -- law.go:70 t50 := (Op.call (Call.mk (Callee.builtin Builtin.len) [t49] [31])) [guard 40 false]
          refine WL.pass (by decide) rfl rfl rfl ?_  -- law.go:70 t51 := (Op.fieldAddr 33 t3 6) [guard 40 false]
          refine WL.pass (by decide) rfl rfl rfl ?_  -- law.go:70 t52 := (Op.load 31 t51) [guard 40 false]
          refine WL.pass (by decide) rfl rfl rfl ?_  -- law.go:70 t53 := (Op.call (Call.mk (Callee.builtin Builtin.len) [t52] [31])) [guard 40 false]
          refine WL.pass (by decide) rfl rfl rfl ?_  -- law.go:70 t54 := (Op.binOp BinOp.neq 3 t50 t53 3) [guard 40 false]
          refine WL.op (by decide) (R.pickT rfl rfl) ?_  -- law.go:70 t55 := (Op.pick t47 c(Value.bool true) t54)
          refine WL.op (by decide) (R.move rfl) ?_  -- law.go:70 t56 := (Op.move t55)
          refine WL.pass (by decide) rfl rfl rfl ?_  -- law.go:70 t57 := (Op.fieldAddr 33 t2 7) [guard 49 false]
          refine WL.pass (by decide) rfl rfl rfl ?_  -- law.go:70 t58 := (Op.load 31 t57) [guard 49 false]
          refine WL.pass (by decide) rfl rfl rfl ?_  -- law.go:70 t59 := (Op.call (Call.mk (Callee.builtin Builtin.len) [t58] [31])) [guard 49 false]
          refine WL.pass (by decide) rfl rfl rfl ?_  -- law.go:70 t60 := (Op.fieldAddr 33 t3 7) [guard 49 false]
          refine WL.pass (by decide) rfl rfl rfl ?_  -- law.go:70 t61 := (Op.load 31 t60) [guard 49 false]
          refine WL.pass (by decide) rfl rfl rfl ?_  -- law.go:70 t62 := (Op.call (Call.mk (Callee.builtin Builtin.len) [t61] [31])) [guard 49 false]
          refine WL.pass (by decide) rfl rfl rfl ?_  -- law.go:70 t63 := (Op.binOp BinOp.neq 3 t59 t62 3) [guard 49 false]
          refine WL.op (by decide) (R.pickT rfl rfl) ?_  -- law.go:70 t64 := (Op.pick t56 c(Value.bool true) t63)
          refine WL.next ?_
          refine CW.condT rfl ?_
          refine CW.rseq ?_  -- region 2
          refine WL.op (by decide) (R.assign rfl) ?_  -- law.go:71 t4 := (Op.assign c(Value.bool false))
          refine WL.next ?_
          refine CW.ret ?_
          refine EW.thenRet ?_
          refine EW.ret1 (.inl rfl) rfl rfl ⟨congrArg (fun b => Ending.returned (.bool b)) (sameM_no (fun e => ?_)).symm, hC⟩
          subst e
          simp_all
        · skip
          refine WL.op (by decide) (R.pickF rfl rfl) ?_  -- law.go:70 t32 := (Op.pick t26 c(Value.bool true) t31)
          refine WL.op (by decide) (R.move rfl) ?_  -- law.go:70 t33 := (Op.move t32)
          refine WL.gop (by decide) rfl rfl rfl (FA33_4 rfl) ?_  -- law.go:70 t34 := (Op.fieldAddr 33 t2 4) [guard 26 false]
          refine WL.gop (by decide) rfl rfl rfl (R.load Tryd.underlying3 rfl rfl (cell_at hA rfl)) ?_  -- law.go:70 t35 := (Op.load 3 t34) [guard 26 false]
          refine WL.gop (by decide) rfl rfl rfl (FA33_4 rfl) ?_  -- law.go:70 t36 := (Op.fieldAddr 33 t3 4) [guard 26 false]
          refine WL.gop (by decide) rfl rfl rfl (R.load Tryd.underlying3 rfl rfl (cell_at hB rfl)) ?_  -- law.go:70 t37 := (Op.load 3 t36) [guard 26 false]
          refine WL.gsplit _ (by decide) rfl rfl rfl (R.neqD rfl rfl) (fun h5 => ?_) (fun h5 => ?_)  -- law.go:70 t38 := (Op.binOp BinOp.neq 3 t35 t37 3) [guard 26 false]
          · skip
            refine WL.op (by decide) (R.pickF rfl rfl) ?_  -- law.go:70 t39 := (Op.pick t33 c(Value.bool true) t38)
            refine WL.op (by decide) (R.move rfl) ?_  -- law.go:70 t40 := (Op.move t39)
            refine WL.pass (by decide) rfl rfl rfl ?_  -- law.go:70 t41 := (Op.fieldAddr 33 t2 5) [guard 33 false]
            refine WL.pass (by decide) rfl rfl rfl ?_  -- law.go:70 t42 := (Op.load 25 t41) [guard 33 false]
            refine WL.pass (by decide) rfl rfl rfl ?_  -- law.go:70 t43 := (Op.fieldAddr 33 t3 5) [guard 33 false]
            refine WL.pass (by decide) rfl rfl rfl ?_  -- law.go:70 t44 := (Op.load 25 t43) [guard 33 false]
            refine WL.pass (by decide) rfl rfl rfl ?_  -- law.go:70 t45 := (Op.binOp BinOp.neq 25 t42 t44 25) [guard 33 false]
            refine WL.op (by decide) (R.pickT rfl rfl) ?_  -- law.go:70 t46 := (Op.pick t40 c(Value.bool true) t45)
            refine WL.op (by decide) (R.move rfl) ?_  -- law.go:70 t47 := (Op.move t46)
            refine WL.pass (by decide) rfl rfl rfl ?_  -- law.go:70 t48 := (Op.fieldAddr 33 t2 6) [guard 40 false]
            refine WL.pass (by decide) rfl rfl rfl ?_  -- law.go:70 t49 := (Op.load 31 t48) [guard 40 false]
            refine WL.pass (by decide) rfl rfl rfl ?_  -- law.go:70 t50 := (Op.call (Call.mk (Callee.builtin Builtin.len) [t49] [31])) [guard 40 false]
            refine WL.pass (by decide) rfl rfl rfl ?_  -- law.go:70 t51 := (Op.fieldAddr 33 t3 6) [guard 40 false]
            refine WL.pass (by decide) rfl rfl rfl ?_  -- law.go:70 t52 := (Op.load 31 t51) [guard 40 false]
            refine WL.pass (by decide) rfl rfl rfl ?_  -- law.go:70 t53 := (Op.call (Call.mk (Callee.builtin Builtin.len) [t52] [31])) [guard 40 false]
            refine WL.pass (by decide) rfl rfl rfl ?_  -- law.go:70 t54 := (Op.binOp BinOp.neq 3 t50 t53 3) [guard 40 false]
            refine WL.op (by decide) (R.pickT rfl rfl) ?_  -- law.go:70 t55 := (Op.pick t47 c(Value.bool true) t54)
            refine WL.op (by decide) (R.move rfl) ?_  -- law.go:70 t56 := (Op.move t55)
            refine WL.pass (by decide) rfl rfl rfl ?_  -- law.go:70 t57 := (Op.fieldAddr 33 t2 7) [guard 49 false]
            refine WL.pass (by decide) rfl rfl rfl ?_  -- law.go:70 t58 := (Op.load 31 t57) [guard 49 false]
            refine WL.pass (by decide) rfl rfl rfl ?_  -- law.go:70 t59 := (Op.call (Call.mk (Callee.builtin Builtin.len) [t58] [31])) [guard 49 false]
            refine WL.pass (by decide) rfl rfl rfl ?_  -- law.go:70 t60 := (Op.fieldAddr 33 t3 7) [guard 49 false]
            refine WL.pass (by decide) rfl rfl rfl ?_  -- law.go:70 t61 := (Op.load 31 t60) [guard 49 false]
            refine WL.pass (by decide) rfl rfl rfl ?_  -- law.go:70 t62 := (Op.call (Call.mk (Callee.builtin Builtin.len) [t61] [31])) [guard 49 false]
            refine WL.pass (by decide) rfl rfl rfl ?_  -- law.go:70 t63 := (Op.binOp BinOp.neq 3 t59 t62 3) [guard 49 false]
            refine WL.op (by decide) (R.pickT rfl rfl) ?_  -- law.go:70 t64 := (Op.pick t56 c(Value.bool true) t63)
            refine WL.next ?_
            refine CW.condT rfl ?_
            refine CW.rseq ?_  -- region 2
            refine WL.op (by decide) (R.assign rfl) ?_  -- law.go:71 t4 := (Op.assign c(Value.bool false))
            refine WL.next ?_
            refine CW.ret ?_
            refine EW.thenRet ?_
            refine EW.ret1 (.inl rfl) rfl rfl ⟨congrArg (fun b => Ending.returned (.bool b)) (sameM_no (fun e => ?_)).symm, hC⟩
            subst e
            simp_all
          · skip
            refine WL.op (by decide) (R.pickF rfl rfl) ?_  -- law.go:70 t39 := (Op.pick t33 c(Value.bool true) t38)
            refine WL.op (by decide) (R.move rfl) ?_  -- law.go:70 t40 := (Op.move t39)
            refine WL.gop (by decide) rfl rfl rfl (FA33_5 rfl) ?_  -- law.go:70 t41 := (Op.fieldAddr 33 t2 5) [guard 33 false]
            refine WL.gop (by decide) rfl rfl rfl (R.loadAgg1 (cs := [sv a.qname, .int .i64 a.qtype]) Tryd.underlying25 rfl sz25 rfl (fun j u hj => cell_at hA (by match j, hj with | 0, hj => exact hj | 1, hj => exact hj))) ?_  -- law.go:70 t42 := (Op.load 25 t41) [guard 33 false]
            refine WL.gop (by decide) rfl rfl rfl (FA33_5 rfl) ?_  -- law.go:70 t43 := (Op.fieldAddr 33 t3 5) [guard 33 false]
            refine WL.gop (by decide) rfl rfl rfl (R.loadAgg1 (cs := [sv b.qname, .int .i64 b.qtype]) Tryd.underlying25 rfl sz25 rfl (fun j u hj => cell_at hB (by match j, hj with | 0, hj => exact hj | 1, hj => exact hj))) ?_  -- law.go:70 t44 := (Op.load 25 t43) [guard 33 false]
            refine WL.gsplit _ (by decide) rfl rfl rfl (R.neq25D (a := a.qname) (b := b.qname) (m := a.qtype) (n := b.qtype) rfl rfl) (fun h6 => ?_) (fun h6 => ?_)  -- law.go:70 t45 := (Op.binOp BinOp.neq 25 t42 t44 25) [guard 33 false]
            · skip
              refine WL.op (by decide) (R.pickF rfl rfl) ?_  -- law.go:70 t46 := (Op.pick t40 c(Value.bool true) t45)
              refine WL.op (by decide) (R.move rfl) ?_  -- law.go:70 t47 := (Op.move t46)
              refine WL.pass (by decide) rfl rfl rfl ?_  -- law.go:70 t48 := (Op.fieldAddr 33 t2 6) [guard 40 false]
              refine WL.pass (by decide) rfl rfl rfl ?_  -- law.go:70 t49 := (Op.load 31 t48) [guard 40 false]
              refine WL.pass (by decide) rfl rfl rfl ?_  -- law.go:70 t50 := (Op.call (Call.mk (Callee.builtin Builtin.len) [t49] [31])) [guard 40 false]
              refine WL.pass (by decide) rfl rfl rfl ?_  -- law.go:70 t51 := (Op.fieldAddr 33 t3 6) [guard 40 false]
              refine WL.pass (by decide) rfl rfl rfl ?_  -- law.go:70 t52 := (Op.load 31 t51) [guard 40 false]
              refine WL.pass (by decide) rfl rfl rfl ?_  -- law.go:70 t53 := (Op.call (Call.mk (Callee.builtin Builtin.len) [t52] [31])) [guard 40 false]
              refine WL.pass (by decide) rfl rfl rfl ?_  -- law.go:70 t54 := (Op.binOp BinOp.neq 3 t50 t53 3) [guard 40 false]
              refine WL.op (by decide) (R.pickT rfl rfl) ?_  -- law.go:70 t55 := (Op.pick t47 c(Value.bool true) t54)
              refine WL.op (by decide) (R.move rfl) ?_  -- law.go:70 t56 := (Op.move t55)
              refine WL.pass (by decide) rfl rfl rfl ?_  -- law.go:70 t57 := (Op.fieldAddr 33 t2 7) [guard 49 false]
              refine WL.pass (by decide) rfl rfl rfl ?_  -- law.go:70 t58 := (Op.load 31 t57) [guard 49 false]
              refine WL.pass (by decide) rfl rfl rfl ?_  -- law.go:70 t59 := (Op.call (Call.mk (Callee.builtin Builtin.len) [t58] [31])) [guard 49 false]
              refine WL.pass (by decide) rfl rfl rfl ?_  -- law.go:70 t60 := (Op.fieldAddr 33 t3 7) [guard 49 false]
              refine WL.pass (by decide) rfl rfl rfl ?_  -- law.go:70 t61 := (Op.load 31 t60) [guard 49 false]
              refine WL.pass (by decide) rfl rfl rfl ?_  -- law.go:70 t62 := (Op.call (Call.mk (Callee.builtin Builtin.len) [t61] [31])) [guard 49 false]
              refine WL.pass (by decide) rfl rfl rfl ?_  -- law.go:70 t63 := (Op.binOp BinOp.neq 3 t59 t62 3) [guard 49 false]
              refine WL.op (by decide) (R.pickT rfl rfl) ?_  -- law.go:70 t64 := (Op.pick t56 c(Value.bool true) t63)
              refine WL.next ?_
              refine CW.condT rfl ?_
              refine CW.rseq ?_  -- region 2
              refine WL.op (by decide) (R.assign rfl) ?_  -- law.go:71 t4 := (Op.assign c(Value.bool false))
              refine WL.next ?_
              refine CW.ret ?_
              refine EW.thenRet ?_
              refine EW.ret1 (.inl rfl) rfl rfl ⟨congrArg (fun b => Ending.returned (.bool b)) (sameM_no (fun e => ?_)).symm, hC⟩
              subst e
              simp_all
            · skip
              refine WL.op (by decide) (R.pickF rfl rfl) ?_  -- law.go:70 t46 := (Op.pick t40 c(Value.bool true) t45)
              refine WL.op (by decide) (R.move rfl) ?_  -- law.go:70 t47 := (Op.move t46)
              refine WL.gop (by decide) rfl rfl rfl (FA33_6 rfl) ?_  -- law.go:70 t48 := (Op.fieldAddr 33 t2 6) [guard 40 false]
              refine WL.gop (by decide) rfl rfl rfl (R.load Tryd.underlying31 rfl rfl (cell_at hA rfl)) ?_  -- law.go:70 t49 := (Op.load 31 t48) [guard 40 false]
              refine WL.gop (by decide) rfl rfl rfl (R.lenSlice rfl Tryd.underlying31 rfl) ?_  -- law.go:70 t50 := (Op.call (Call.mk (Callee.builtin Builtin.len) [t49] [31])) [guard 40 false]
              refine WL.gop (by decide) rfl rfl rfl (FA33_6 rfl) ?_  -- law.go:70 t51 := (Op.fieldAddr 33 t3 6) [guard 40 false]
              refine WL.gop (by decide) rfl rfl rfl (R.load Tryd.underlying31 rfl rfl (cell_at hB rfl)) ?_  -- law.go:70 t52 := (Op.load 31 t51) [guard 40 false]
              refine WL.gop (by decide) rfl rfl rfl (R.lenSlice rfl Tryd.underlying31 rfl) ?_  -- law.go:70 t53 := (Op.call (Call.mk (Callee.builtin Builtin.len) [t52] [31])) [guard 40 false]
              refine WL.gsplit _ (by decide) rfl rfl rfl (R.neqD rfl rfl) (fun h7 => ?_) (fun h7 => ?_)  -- law.go:70 t54 := (Op.binOp BinOp.neq 3 t50 t53 3) [guard 40 false]
              · skip
                refine WL.op (by decide) (R.pickF rfl rfl) ?_  -- law.go:70 t55 := (Op.pick t47 c(Value.bool true) t54)
                refine WL.op (by decide) (R.move rfl) ?_  -- law.go:70 t56 := (Op.move t55)
                refine WL.pass (by decide) rfl rfl rfl ?_  -- law.go:70 t57 := (Op.fieldAddr 33 t2 7) [guard 49 false]
                refine WL.pass (by decide) rfl rfl rfl ?_  -- law.go:70 t58 := (Op.load 31 t57) [guard 49 false]
                refine WL.pass (by decide) rfl rfl rfl ?_  -- law.go:70 t59 := (Op.call (Call.mk (Callee.builtin Builtin.len) [t58] [31])) [guard 49 false]
                refine WL.pass (by decide) rfl rfl rfl ?_  -- law.go:70 t60 := (Op.fieldAddr 33 t3 7) [guard 49 false]
                refine WL.pass (by decide) rfl rfl rfl ?_  -- law.go:70 t61 := (Op.load 31 t60) [guard 49 false]
                refine WL.pass (by decide) rfl rfl rfl ?_  -- law.go:70 t62 := (Op.call (Call.mk (Callee.builtin Builtin.len) [t61] [31])) [guard 49 false]
                refine WL.pass (by decide) rfl rfl rfl ?_  -- law.go:70 t63 := (Op.binOp BinOp.neq 3 t59 t62 3) [guard 49 false]
                refine WL.op (by decide) (R.pickT rfl rfl) ?_  -- law.go:70 t64 := (Op.pick t56 c(Value.bool true) t63)
                refine WL.next ?_
                refine CW.condT rfl ?_
                refine CW.rseq ?_  -- region 2
                refine WL.op (by decide) (R.assign rfl) ?_  -- law.go:71 t4 := (Op.assign c(Value.bool false))
                refine WL.next ?_
                refine CW.ret ?_
                refine EW.thenRet ?_
                refine EW.ret1 (.inl rfl) rfl rfl ⟨congrArg (fun b => Ending.returned (.bool b)) (sameM_no (fun e => ?_)).symm, hC⟩
                subst e
                simp_all
              · skip
                refine WL.op (by decide) (R.pickF rfl rfl) ?_  -- law.go:70 t55 := (Op.pick t47 c(Value.bool true) t54)
                refine WL.op (by decide) (R.move rfl) ?_  -- law.go:70 t56 := (Op.move t55)
                refine WL.gop (by decide) rfl rfl rfl (FA33_7 rfl) ?_  -- law.go:70 t57 := (Op.fieldAddr 33 t2 7) [guard 49 false]
                refine WL.gop (by decide) rfl rfl rfl (R.load Tryd.underlying31 rfl rfl (cell_at hA rfl)) ?_  -- law.go:70 t58 := (Op.load 31 t57) [guard 49 false]
                refine WL.gop (by decide) rfl rfl rfl (R.lenSlice rfl Tryd.underlying31 rfl) ?_  -- law.go:70 t59 := (Op.call (Call.mk (Callee.builtin Builtin.len) [t58] [31])) [guard 49 false]
                refine WL.gop (by decide) rfl rfl rfl (FA33_7 rfl) ?_  -- law.go:70 t60 := (Op.fieldAddr 33 t3 7) [guard 49 false]
                refine WL.gop (by decide) rfl rfl rfl (R.load Tryd.underlying31 rfl rfl (cell_at hB rfl)) ?_  -- law.go:70 t61 := (Op.load 31 t60) [guard 49 false]
                refine WL.gop (by decide) rfl rfl rfl (R.lenSlice rfl Tryd.underlying31 rfl) ?_  -- law.go:70 t62 := (Op.call (Call.mk (Callee.builtin Builtin.len) [t61] [31])) [guard 49 false]
                refine WL.gsplit _ (by decide) rfl rfl rfl (R.neqD rfl rfl) (fun h8 => ?_) (fun h8 => ?_)  -- law.go:70 t63 := (Op.binOp BinOp.neq 3 t59 t62 3) [guard 49 false]
                · skip
                  refine WL.op (by decide) (R.pickF rfl rfl) ?_  -- law.go:70 t64 := (Op.pick t56 c(Value.bool true) t63)
                  refine WL.next ?_
                  refine CW.condT rfl ?_
                  refine CW.rseq ?_  -- region 2
                  refine WL.op (by decide) (R.assign rfl) ?_  -- law.go:71 t4 := (Op.assign c(Value.bool false))
                  refine WL.next ?_
                  refine CW.ret ?_
                  refine EW.thenRet ?_
                  refine EW.ret1 (.inl rfl) rfl rfl ⟨congrArg (fun b => Ending.returned (.bool b)) (sameM_no (fun e => ?_)).symm, hC⟩
                  subst e
                  simp_all
                · skip
                  refine WL.op (by decide) (R.pickF rfl rfl) ?_  -- law.go:70 t64 := (Op.pick t56 c(Value.bool true) t63)
                  refine WL.next ?_
                  refine CW.condF rfl ?_
                  refine CW.skip ?_
                  refine EW.next ?_
                  refine CW.seq ?_
                  refine CW.rseq ?_  -- region 3
                  refine WL.op (by decide) (FA33_6 rfl) ?_  -- law.go:73 t65 := (Op.fieldAddr 33 t2 6)
                  refine WL.op (by decide) (R.load Tryd.underlying31 rfl rfl (cell_at hA rfl)) ?_  -- law.go:73 t66 := (Op.load 31 t65)
                  refine WL.op (by decide) (R.lenSlice rfl Tryd.underlying31 rfl) ?_  -- law.go:73 t67 := (Op.call (Call.mk (Callee.builtin Builtin.len) [t66] [31]))
                  refine WL.op (by decide) (R.move rfl) ?_  -- law.go:73 t68 := (Op.move c(Value.int IntKind.i64 0))
                  refine WL.next ?_
                  refine CW.block ?_
                  refine CW.loopK [2, 3, 67, 68] (fun k l wr => Chg (fun _ => False) w0 wr ∧ wr.heap[ba]? = some (.cells (a.cells (.slice Aa a.ans.length ca) (.slice Ba a.auth.length da)).toArray 33 (0, 0)) ∧ wr.heap[bb]? = some (.cells (b.cells (.slice Ab b.ans.length cb) (.slice Bb b.auth.length db)).toArray 33 (0, 0)) ∧ RSl wr (.slice Aa a.ans.length ca) a.ans ∧ RSl wr (.slice Ba a.auth.length da) a.auth ∧ RSl wr (.slice Ab b.ans.length cb) b.ans ∧ RSl wr (.slice Bb b.auth.length db) b.auth ∧ ∃ (j : Nat) (jj : Int), j + k = a.ans.length ∧ jj = (j : Int) ∧ l = [(2, .pointer (some ⟨ba, 0, none⟩)), (3, .pointer (some ⟨bb, 0, none⟩)), (67, .int .i64 a.ans.length), (68, .int .i64 jj)] ∧ a.ans.take j = b.ans.take j) (a.ans.length) ?_ ?_
                  · exact ⟨hC, hA, hB, hAa, hBa, hAb, hBb, 0, 0, by omega, rfl, rfl, rfl⟩
                  · rintro k l wr ⟨hC, hA, hB, hAa, hBa, hAb, hBb, j, jj, hk, rfl, rfl, htk⟩
                    refine CW.rseq ?_  -- region 4
                    refine WL.lssS (by decide) rfl rfl (fun h9 => ?_) (fun h9 => ?_)  -- law.go:73 t69 := (Op.binOp BinOp.lss 3 t68 t67 3)
                    · skip
                      refine WL.next ?_
                      refine CW.seq ?_
                      refine CW.condT rfl ?_
                      refine CW.skip ?_
                      refine EW.next ?_
                      refine CW.seq ?_
                      refine CW.block ?_
                      refine CW.rseq ?_  -- region 5
                      refine WL.op (by decide) (R.move rfl) ?_  -- law.go:73 t70 := (Op.move t68)
                      refine WL.op (by decide) (R.assign rfl) ?_  -- law.go:73 t5 := (Op.assign t70)
                      refine WL.next ?_
                      refine CW.seq ?_
                      obtain ⟨x, hx⟩ : ∃ x, a.ans[j]? = some x := ⟨a.ans[j]'(by omega), List.getElem?_eq_getElem _⟩
                      obtain ⟨y, hy⟩ : ∃ y, b.ans[j]? = some y := ⟨b.ans[j]'(by omega), List.getElem?_eq_getElem _⟩
                      obtain ⟨hx16, _, gx, ox, hgx, hcx⟩ := hAa.at hx
                      obtain ⟨hy16, _, gy, oy, hgy, hcy⟩ := hAb.at hy
                      refine CW.draw (fun w => w.heap[ba]? = some (.cells (a.cells (.slice Aa a.ans.length ca) (.slice Ba a.auth.length da)).toArray 33 (0, 0)) ∧ w.heap[bb]? = some (.cells (b.cells (.slice Ab b.ans.length cb) (.slice Bb b.auth.length db)).toArray 33 (0, 0)) ∧ (∀ i u, x.cells[i]? = some u → w.cell? ⟨gx, ox + j * 21 + i, none⟩ = some u) ∧ (∀ i u, y.cells[i]? = some u → w.cell? ⟨gy, oy + j * 21 + i, none⟩ = some u)) (by kernel_rfl) ?_
                      have hC := hC.trans (Chg.drew (fun _ => False) _)
                      have hA := (Chg.drew (fun _ => False) _).at hA (fun e => e)
                      have hB := (Chg.drew (fun _ => False) _).at hB (fun e => e)
                      have hAa := hAa.kept (Chg.drew (fun _ => False) _) (fun _ _ e => e)
                      have hBa := hBa.kept (Chg.drew (fun _ => False) _) (fun _ _ e => e)
                      have hAb := hAb.kept (Chg.drew (fun _ => False) _) (fun _ _ e => e)
                      have hBb := hBb.kept (Chg.drew (fun _ => False) _) (fun _ _ e => e)
                      refine AH.take 0 rfl (by kernel_rfl) (by kernel_rfl) (by kernel_rfl) (fun _ _ _ _ h => h) ⟨hA, hB, hcx, hcy⟩ (by decide) (fun w hS => FA33_6 rfl) ?_  -- law.go:74 t71 := (Op.fieldAddr 33 t2 6)
                      refine AH.take 1 rfl (by kernel_rfl) (by kernel_rfl) (by kernel_rfl) (fun _ _ _ _ h => h) ⟨hA, hB, hcx, hcy⟩ (by decide) (fun w hS => R.load (v := .slice (some ⟨gx, ox, none⟩) a.ans.length ca) Tryd.underlying31 rfl rfl (cell_at hS.1 (by rw [← hgx]; rfl))) ?_  -- law.go:74 t72 := (Op.load 31 t71)
                      refine AH.take 2 rfl (by kernel_rfl) (by kernel_rfl) (by kernel_rfl) (fun _ _ _ _ h => h) ⟨hA, hB, hcx, hcy⟩ (by decide) (fun w hS => R.move rfl) ?_  -- law.go:74 t73 := (Op.move t5)
                      refine AH.take 3 rfl (by kernel_rfl) (by kernel_rfl) (by kernel_rfl) (fun _ _ _ _ h => h) ⟨hA, hB, hcx, hcy⟩ (by decide) (fun w hS => R.indexAddr1 (i := j) Tryd.underlying31 sz57 rfl rfl rfl (by omega)) ?_  -- law.go:74 t74 := (Op.indexAddr 31 t72 t73)
                      refine AH.take 4 rfl (by kernel_rfl) (by kernel_rfl) (by kernel_rfl) (fun _ _ _ _ h => h) ⟨hA, hB, hcx, hcy⟩ (by decide) (fun w hS => R.loadR (r := x) hx16 rfl hS.2.2.1) ?_  -- law.go:74 t75 := (Op.load 57 t74)
                      refine AH.take 5 rfl (by kernel_rfl) (by kernel_rfl) (by kernel_rfl) (fun _ _ _ _ h => h) ⟨hA, hB, hcx, hcy⟩ (by decide) (fun w hS => FA33_6 rfl) ?_  -- law.go:74 t76 := (Op.fieldAddr 33 t3 6)
                      refine AH.take 6 rfl (by kernel_rfl) (by kernel_rfl) (by kernel_rfl) (fun _ _ _ _ h => h) ⟨hA, hB, hcx, hcy⟩ (by decide) (fun w hS => R.load (v := .slice (some ⟨gy, oy, none⟩) b.ans.length cb) Tryd.underlying31 rfl rfl (cell_at hS.2.1 (by rw [← hgy]; rfl))) ?_  -- law.go:74 t77 := (Op.load 31 t76)
                      refine AH.take 7 rfl (by kernel_rfl) (by kernel_rfl) (by kernel_rfl) (fun _ _ _ _ h => h) ⟨hA, hB, hcx, hcy⟩ (by decide) (fun w hS => R.move rfl) ?_  -- law.go:74 t78 := (Op.move t5)
                      refine AH.take 8 rfl (by kernel_rfl) (by kernel_rfl) (by kernel_rfl) (fun _ _ _ _ h => h) ⟨hA, hB, hcx, hcy⟩ (by decide) (fun w hS => R.indexAddr1 (i := j) Tryd.underlying31 sz57 rfl rfl rfl (by omega)) ?_  -- law.go:74 t79 := (Op.indexAddr 31 t77 t78)
                      refine AH.take 9 rfl (by kernel_rfl) (by kernel_rfl) (by kernel_rfl) (fun _ _ _ _ h => h) ⟨hA, hB, hcx, hcy⟩ (by decide) (fun w hS => R.loadR (r := y) hy16 rfl hS.2.2.2) ?_  -- law.go:74 t80 := (Op.load 57 t79)
                      by_cases h10 : ¬ x = y
                      · skip
                        refine AH.take 10 rfl (by kernel_rfl) (by kernel_rfl) (by kernel_rfl) (fun _ _ _ _ h => h) ⟨hA, hB, hcx, hcy⟩ (by decide) (fun w hS => R.neq57 hx16 hy16 rfl rfl (c := true) (by simp [h10])) ?_  -- law.go:74 t81 := (Op.binOp BinOp.neq 57 t75 t80 57)
                        refine AH.done (by kernel_rfl) ?_
                        refine EW.next ?_
                        refine CW.condT rfl ?_
                        refine CW.rseq ?_  -- region 7
                        refine WL.op (by decide) (R.assign rfl) ?_  -- law.go:75 t4 := (Op.assign c(Value.bool false))
                        refine WL.next ?_
                        refine CW.ret ?_
                        refine EW.inRet ?_
                        refine EW.thenRet ?_
                        refine EW.thenRet ?_
                        refine EW.inRet ?_
                        refine EW.thenRet ?_
                        exact EW.ret1 (.inl rfl) rfl rfl ⟨congrArg (fun b => Ending.returned (.bool b)) (sameM_no (fun e => (show ¬ x = y by assumption) (by subst e; exact Option.some.inj (hx.symm.trans hy)))).symm, hC⟩
                      · skip
                        refine AH.take 10 rfl (by kernel_rfl) (by kernel_rfl) (by kernel_rfl) (fun _ _ _ _ h => h) ⟨hA, hB, hcx, hcy⟩ (by decide) (fun w hS => R.neq57 hx16 hy16 rfl rfl (c := false) (by simpa using h10)) ?_  -- law.go:74 t81 := (Op.binOp BinOp.neq 57 t75 t80 57)
                        refine AH.done (by kernel_rfl) ?_
                        refine EW.next ?_
                        refine CW.condF rfl ?_
                        refine CW.skip ?_
                        refine EW.inNormal ?_
                        refine EW.next ?_
                        refine CW.region ?_  -- region 8
                        refine WL.op (by decide) (R.add rfl rfl (by omega)) ?_  -- law.go:73 t82 := (Op.binOp BinOp.add 3 t68 c(Value.int IntKind.i64 1) 3)
                        refine WL.op (by decide) (R.move rfl) ?_  -- law.go:73 t68 := (Op.move t82)
                        refine WL.nil ?_
                        exact EW.roundK [2, 3, 67, 68] (k - 1) (by omega) ⟨hC, hA, hB, hAa, hBa, hAb, hBb, j + 1, _, by omega, by omega, rfl, take_next htk hx hy (Classical.byContradiction (fun e => by contradiction))⟩
                    · skip
                      refine WL.next ?_
                      refine CW.seq ?_
                      refine CW.condF rfl ?_
                      refine CW.exit ?_
                      have hans : a.ans = b.ans := by rwa [List.take_of_length_le (by omega), List.take_of_length_le (by omega)] at htk
                      refine EW.thenExit ?_
                      refine EW.thenExit ?_
                      refine EW.inHere ?_
                      refine EW.next ?_
                      refine CW.seq ?_
                      refine CW.rseq ?_  -- region 9
                      refine WL.op (by decide) (FA33_7 rfl) ?_  -- law.go:78 t83 := (Op.fieldAddr 33 t2 7)
                      refine WL.op (by decide) (R.load Tryd.underlying31 rfl rfl (cell_at hA rfl)) ?_  -- law.go:78 t84 := (Op.load 31 t83)
                      refine WL.op (by decide) (R.lenSlice rfl Tryd.underlying31 rfl) ?_  -- law.go:78 t85 := (Op.call (Call.mk (Callee.builtin Builtin.len) [t84] [31]))
                      refine WL.op (by decide) (R.move rfl) ?_  -- law.go:78 t86 := (Op.move c(Value.int IntKind.i64 0))
                      refine WL.next ?_
                      refine CW.block ?_
                      refine CW.loopK [2, 3, 85, 86] (fun k l wr => Chg (fun _ => False) w0 wr ∧ wr.heap[ba]? = some (.cells (a.cells (.slice Aa a.ans.length ca) (.slice Ba a.auth.length da)).toArray 33 (0, 0)) ∧ wr.heap[bb]? = some (.cells (b.cells (.slice Ab b.ans.length cb) (.slice Bb b.auth.length db)).toArray 33 (0, 0)) ∧ RSl wr (.slice Aa a.ans.length ca) a.ans ∧ RSl wr (.slice Ba a.auth.length da) a.auth ∧ RSl wr (.slice Ab b.ans.length cb) b.ans ∧ RSl wr (.slice Bb b.auth.length db) b.auth ∧ ∃ (j : Nat) (jj : Int), j + k = a.auth.length ∧ jj = (j : Int) ∧ l = [(2, .pointer (some ⟨ba, 0, none⟩)), (3, .pointer (some ⟨bb, 0, none⟩)), (85, .int .i64 a.auth.length), (86, .int .i64 jj)] ∧ a.auth.take j = b.auth.take j) (a.auth.length) ?_ ?_
                      · exact ⟨hC, hA, hB, hAa, hBa, hAb, hBb, 0, 0, by omega, rfl, rfl, rfl⟩
                      · rintro k l wr ⟨hC, hA, hB, hAa, hBa, hAb, hBb, j, jj, hk, rfl, rfl, htk⟩
                        refine CW.rseq ?_  -- region 10
                        refine WL.lssS (by decide) rfl rfl (fun h11 => ?_) (fun h11 => ?_)  -- law.go:78 t87 := (Op.binOp BinOp.lss 3 t86 t85 3)
                        · skip
                          refine WL.next ?_
                          refine CW.seq ?_
                          refine CW.condT rfl ?_
                          refine CW.skip ?_
                          refine EW.next ?_
                          refine CW.seq ?_
                          refine CW.block ?_
                          refine CW.rseq ?_  -- region 11
                          refine WL.op (by decide) (R.move rfl) ?_  -- law.go:78 t88 := (Op.move t86)
                          refine WL.op (by decide) (R.assign rfl) ?_  -- law.go:78 t6 := (Op.assign t88)
                          refine WL.next ?_
                          refine CW.seq ?_
                          obtain ⟨x, hx⟩ : ∃ x, a.auth[j]? = some x := ⟨a.auth[j]'(by omega), List.getElem?_eq_getElem _⟩
                          obtain ⟨y, hy⟩ : ∃ y, b.auth[j]? = some y := ⟨b.auth[j]'(by omega), List.getElem?_eq_getElem _⟩
                          obtain ⟨hx16, _, gx, ox, hgx, hcx⟩ := hBa.at hx
                          obtain ⟨hy16, _, gy, oy, hgy, hcy⟩ := hBb.at hy
                          refine CW.draw (fun w => w.heap[ba]? = some (.cells (a.cells (.slice Aa a.ans.length ca) (.slice Ba a.auth.length da)).toArray 33 (0, 0)) ∧ w.heap[bb]? = some (.cells (b.cells (.slice Ab b.ans.length cb) (.slice Bb b.auth.length db)).toArray 33 (0, 0)) ∧ (∀ i u, x.cells[i]? = some u → w.cell? ⟨gx, ox + j * 21 + i, none⟩ = some u) ∧ (∀ i u, y.cells[i]? = some u → w.cell? ⟨gy, oy + j * 21 + i, none⟩ = some u)) (by kernel_rfl) ?_
                          have hC := hC.trans (Chg.drew (fun _ => False) _)
                          have hA := (Chg.drew (fun _ => False) _).at hA (fun e => e)
                          have hB := (Chg.drew (fun _ => False) _).at hB (fun e => e)
                          have hAa := hAa.kept (Chg.drew (fun _ => False) _) (fun _ _ e => e)
                          have hBa := hBa.kept (Chg.drew (fun _ => False) _) (fun _ _ e => e)
                          have hAb := hAb.kept (Chg.drew (fun _ => False) _) (fun _ _ e => e)
                          have hBb := hBb.kept (Chg.drew (fun _ => False) _) (fun _ _ e => e)
                          refine AH.take 0 rfl (by kernel_rfl) (by kernel_rfl) (by kernel_rfl) (fun _ _ _ _ h => h) ⟨hA, hB, hcx, hcy⟩ (by decide) (fun w hS => FA33_7 rfl) ?_  -- law.go:79 t89 := (Op.fieldAddr 33 t2 7)
                          refine AH.take 1 rfl (by kernel_rfl) (by kernel_rfl) (by kernel_rfl) (fun _ _ _ _ h => h) ⟨hA, hB, hcx, hcy⟩ (by decide) (fun w hS => R.load (v := .slice (some ⟨gx, ox, none⟩) a.auth.length da) Tryd.underlying31 rfl rfl (cell_at hS.1 (by rw [← hgx]; rfl))) ?_  -- law.go:79 t90 := (Op.load 31 t89)
                          refine AH.take 2 rfl (by kernel_rfl) (by kernel_rfl) (by kernel_rfl) (fun _ _ _ _ h => h) ⟨hA, hB, hcx, hcy⟩ (by decide) (fun w hS => R.move rfl) ?_  -- law.go:79 t91 := (Op.move t6)
                          refine AH.take 3 rfl (by kernel_rfl) (by kernel_rfl) (by kernel_rfl) (fun _ _ _ _ h => h) ⟨hA, hB, hcx, hcy⟩ (by decide) (fun w hS => R.indexAddr1 (i := j) Tryd.underlying31 sz57 rfl rfl rfl (by omega)) ?_  -- law.go:79 t92 := (Op.indexAddr 31 t90 t91)
                          refine AH.take 4 rfl (by kernel_rfl) (by kernel_rfl) (by kernel_rfl) (fun _ _ _ _ h => h) ⟨hA, hB, hcx, hcy⟩ (by decide) (fun w hS => R.loadR (r := x) hx16 rfl hS.2.2.1) ?_  -- law.go:79 t93 := (Op.load 57 t92)
                          refine AH.take 5 rfl (by kernel_rfl) (by kernel_rfl) (by kernel_rfl) (fun _ _ _ _ h => h) ⟨hA, hB, hcx, hcy⟩ (by decide) (fun w hS => FA33_7 rfl) ?_  -- law.go:79 t94 := (Op.fieldAddr 33 t3 7)
                          refine AH.take 6 rfl (by kernel_rfl) (by kernel_rfl) (by kernel_rfl) (fun _ _ _ _ h => h) ⟨hA, hB, hcx, hcy⟩ (by decide) (fun w hS => R.load (v := .slice (some ⟨gy, oy, none⟩) b.auth.length db) Tryd.underlying31 rfl rfl (cell_at hS.2.1 (by rw [← hgy]; rfl))) ?_  -- law.go:79 t95 := (Op.load 31 t94)
                          refine AH.take 7 rfl (by kernel_rfl) (by kernel_rfl) (by kernel_rfl) (fun _ _ _ _ h => h) ⟨hA, hB, hcx, hcy⟩ (by decide) (fun w hS => R.move rfl) ?_  -- law.go:79 t96 := (Op.move t6)
                          refine AH.take 8 rfl (by kernel_rfl) (by kernel_rfl) (by kernel_rfl) (fun _ _ _ _ h => h) ⟨hA, hB, hcx, hcy⟩ (by decide) (fun w hS => R.indexAddr1 (i := j) Tryd.underlying31 sz57 rfl rfl rfl (by omega)) ?_  -- law.go:79 t97 := (Op.indexAddr 31 t95 t96)
                          refine AH.take 9 rfl (by kernel_rfl) (by kernel_rfl) (by kernel_rfl) (fun _ _ _ _ h => h) ⟨hA, hB, hcx, hcy⟩ (by decide) (fun w hS => R.loadR (r := y) hy16 rfl hS.2.2.2) ?_  -- law.go:79 t98 := (Op.load 57 t97)
                          by_cases h12 : ¬ x = y
                          · skip
                            refine AH.take 10 rfl (by kernel_rfl) (by kernel_rfl) (by kernel_rfl) (fun _ _ _ _ h => h) ⟨hA, hB, hcx, hcy⟩ (by decide) (fun w hS => R.neq57 hx16 hy16 rfl rfl (c := true) (by simp [h12])) ?_  -- law.go:79 t99 := (Op.binOp BinOp.neq 57 t93 t98 57)
                            refine AH.done (by kernel_rfl) ?_
                            refine EW.next ?_
                            refine CW.condT rfl ?_
                            refine CW.rseq ?_  -- region 13
                            refine WL.op (by decide) (R.assign rfl) ?_  -- law.go:80 t4 := (Op.assign c(Value.bool false))
                            refine WL.next ?_
                            refine CW.ret ?_
                            refine EW.inRet ?_
                            refine EW.thenRet ?_
                            refine EW.thenRet ?_
                            refine EW.inRet ?_
                            refine EW.thenRet ?_
                            exact EW.ret1 (.inl rfl) rfl rfl ⟨congrArg (fun b => Ending.returned (.bool b)) (sameM_no (fun e => (show ¬ x = y by assumption) (by subst e; exact Option.some.inj (hx.symm.trans hy)))).symm, hC⟩
                          · skip
                            refine AH.take 10 rfl (by kernel_rfl) (by kernel_rfl) (by kernel_rfl) (fun _ _ _ _ h => h) ⟨hA, hB, hcx, hcy⟩ (by decide) (fun w hS => R.neq57 hx16 hy16 rfl rfl (c := false) (by simpa using h12)) ?_  -- law.go:79 t99 := (Op.binOp BinOp.neq 57 t93 t98 57)
                            refine AH.done (by kernel_rfl) ?_
                            refine EW.next ?_
                            refine CW.condF rfl ?_
                            refine CW.skip ?_
                            refine EW.inNormal ?_
                            refine EW.next ?_
                            refine CW.region ?_  -- region 14
                            refine WL.op (by decide) (R.add rfl rfl (by omega)) ?_  -- law.go:78 t100 := (Op.binOp BinOp.add 3 t86 c(Value.int IntKind.i64 1) 3)
                            refine WL.op (by decide) (R.move rfl) ?_  -- law.go:78 t86 := (Op.move t100)
                            refine WL.nil ?_
                            exact EW.roundK [2, 3, 85, 86] (k - 1) (by omega) ⟨hC, hA, hB, hAa, hBa, hAb, hBb, j + 1, _, by omega, by omega, rfl, take_next htk hx hy (Classical.byContradiction (fun e => by contradiction))⟩
                        · skip
                          refine WL.next ?_
                          refine CW.seq ?_
                          refine CW.condF rfl ?_
                          refine CW.exit ?_
                          have hauth : a.auth = b.auth := by rwa [List.take_of_length_le (by omega), List.take_of_length_le (by omega)] at htk
                          refine EW.thenExit ?_
                          refine EW.thenExit ?_
                          refine EW.inHere ?_
                          refine EW.next ?_
                          refine CW.rseq ?_  -- region 15
                          refine WL.op (by decide) (R.assign rfl) ?_  -- law.go:83 t4 := (Op.assign c(Value.bool true))
                          refine WL.next ?_
                          refine CW.ret ?_
                          exact EW.ret1 (.inl rfl) rfl rfl ⟨congrArg (fun b => Ending.returned (.bool b)) (sameM_yes (by omega) (by simpa using @h2) (by simpa using @h3) (by simpa using @h4) (by omega) (by simpa using @h6) hans hauth).symm, hC⟩
end Go.Proofs.YthcpjcgjmdfpjaaDoor
