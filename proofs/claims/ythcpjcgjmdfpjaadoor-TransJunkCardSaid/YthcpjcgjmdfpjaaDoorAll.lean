/- msg.All. -/
import Derived.Test.YthcpjcgjmdfpjaaDoorOps4
namespace Go.Proofs.YthcpjcgjmdfpjaaDoor
open Go Go.RowKit
set_option maxRecDepth 100000
set_option maxHeartbeats 4000000

theorem build106 (A : Option Addr) (n c : Nat) (B : Option Addr) (m d : Nat) (w : World) : (Instr.build 106 #[(0, .slice A n c), (1, .slice B m d)]).run Tryd.prog w = .ok (.agg #[.slice A n c, .slice B m d]) w := by kernel_rfl
/-- Which of the two lists. -/
theorem elem_of {m : Msg} {w : World} {Aa Ab : Option Addr} {ca cb i : Nat} (ha : RSl w (.slice Aa m.ans.length ca) m.ans) (hb : RSl w (.slice Ab m.auth.length cb) m.auth) (hi : i < 2) :
    ∃ (rs : List Rec) (A : Option Addr) (c : Nat), [m.ans, m.auth][i]? = some rs ∧ (#[Value.slice Aa m.ans.length ca, Value.slice Ab m.auth.length cb])[i]? = some (.slice A rs.length c) ∧ RSl w (.slice A rs.length c) rs ∧ rs.length ≤ m.ans.length + m.auth.length := by
  match i, hi with
  | 0, _ => exact ⟨m.ans, Aa, ca, rfl, rfl, ha, by omega⟩
  | 1, _ => exact ⟨m.auth, Ab, cb, rfl, rfl, hb, by omega⟩
theorem all_false {rs : List Rec} {j : Nat} {x : Rec} (hx : rs[j]? = some x) (hr : rightR x = false) : rs.all rightR = false := by
  rw [List.all_eq_false]
  exact ⟨x, List.mem_of_getElem? hx, by simp [hr]⟩
theorem all_bad {m : Msg} {i : Nat} {rs : List Rec} (h : [m.ans, m.auth][i]? = some rs) (hf : rs.all rightR = false) : allM m = false := by
  unfold allM
  match i, h with
  | 0, h => obtain rfl := Option.some.inj h; simp [hf]
  | 1, h => obtain rfl := Option.some.inj h; simp [hf]
  | k + 2, h => simp at h
theorem mem_of {m : Msg} {i j : Nat} {rs : List Rec} {x : Rec} (h : [m.ans, m.auth][i]? = some rs) (hx : rs[j]? = some x) : x ∈ m.ans ++ m.auth := by
  have := List.mem_of_getElem? hx
  match i, h with
  | 0, h => obtain rfl := Option.some.inj h; simp [this]
  | 1, h => obtain rfl := Option.some.inj h; simp [this]
  | k + 2, h => simp at h
theorem all_next {m : Msg} {i : Nat} {rs : List Rec} (hall : ∀ (j : Nat) (rs : List Rec), [m.ans, m.auth][j]? = some rs → j < i → rs.all rightR = true) (h : [m.ans, m.auth][i]? = some rs) (hd : rs.all rightR = true) : ∀ (j : Nat) (rs : List Rec), [m.ans, m.auth][j]? = some rs → j < i + 1 → rs.all rightR = true := by
  intro j q hq hj
  by_cases e : j = i
  · subst e; rw [h] at hq; obtain rfl := Option.some.inj hq; exact hd
  · exact hall j q hq (by omega)
theorem all_take {rs : List Rec} {j : Nat} {x : Rec} (hx : rs[j]? = some x) (hr : rightR x = true) (h : (rs.take j).all rightR = true) : (rs.take (j + 1)).all rightR = true := by
  have hlt := (List.getElem?_eq_some_iff.1 hx).1
  have hv := (List.getElem?_eq_some_iff.1 hx).2
  rw [List.take_succ_eq_append_getElem hlt, hv, List.all_append, h]
  simp [hr]

/-- Short enough for the machine. -/
def Rec.small (r : Rec) : Prop := r.name.length ≤ 1099511627776 ∧ r.text.length ≤ 1099511627776 ∧ r.data.length ≤ 1099511627776
def Msg.small (m : Msg) : Prop := m.qname.length ≤ 1099511627776 ∧ m.ans.length ≤ 1099511627776 ∧ m.auth.length ≤ 1099511627776 ∧ ∀ r ∈ m.ans ++ m.auth, r.small

theorem all_any (m : Msg) (v : Value) (w0 : World) (hm : MV w0 v m) (hG : Glob w0) (hs : m.small) :
    Calls Tryd.prog 30 #[v] w0 fun e w' => e = .returned (.bool (allM m)) ∧ Chg (fun _ => False) w0 w' := by
  obtain ⟨va, vb, rfl, hva, hvb⟩ := hm
  obtain ⟨Aa, ca, rfl, _⟩ := hva.form
  obtain ⟨Ab, cb, rfl, _⟩ := hvb.form
  obtain ⟨hl1, hl2, hl3, hsm⟩ := hs
  refine calls_cw (args := [.agg (m.cells (.slice Aa m.ans.length ca) (.slice Ab m.auth.length cb)).toArray]) Tryd.func30 rfl rfl ?_
  show CW _ _ _ 73 [(0, .agg (m.cells (.slice Aa m.ans.length ca) (.slice Ab m.auth.length cb)).toArray)] w0
  refine CW.rseq ?_  -- region 0
  refine WL.eff rfl (OP.box (by decide) rfl ?_)
  intro w1 hc1 hs1 hB
  have hC := hc1
  have hG := hG.kept hc1 (fun h => h)
  have hva := hva.kept hc1 (fun _ _ h => h)
  have hvb := hvb.kept hc1 (fun _ _ h => h)
  refine WL.op (by decide) (R.assign rfl) ?_  -- msg.go:97 t2 := (Op.assign c(Value.bool false))
  refine WL.next ?_
  refine CW.seq ?_
  refine CW.rseq ?_  -- region 1
  refine WL.op (by decide) (FA33_0 rfl) ?_  -- msg.go:98 t7 := (Op.fieldAddr 33 t1 0)
  refine WL.op (by decide) (R.load Tryd.underlying3 rfl rfl (cell_at hB rfl)) ?_  -- msg.go:98 t8 := (Op.load 3 t7)
  refine WL.lssS (by decide) rfl rfl (fun h1 => ?_) (fun h1 => ?_)  -- msg.go:98 t9 := (Op.binOp BinOp.lss 3 t8 c(Value.int IntKind.i64 0) 3)
  · skip
    refine WL.op (by decide) (R.move rfl) ?_  -- msg.go:98 t10 := (Op.move t9)
    refine WL.pass (by decide) rfl rfl rfl ?_  -- msg.go:98 t11 := (Op.fieldAddr 33 t1 0) [guard 3 false]
    refine WL.pass (by decide) rfl rfl rfl ?_  -- msg.go:98 t12 := (Op.load 3 t11) [guard 3 false]
    refine WL.pass (by decide) rfl rfl rfl ?_  -- msg.go:98 t13 := (Op.binOp BinOp.gtr 3 t12 c(Value.int IntKind.i64 65535) 3) [guard 3 false]
    refine WL.op (by decide) (R.pickT rfl rfl) ?_  -- msg.go:98 t14 := (Op.pick t10 c(Value.bool true) t13)
    refine WL.op (by decide) (R.move rfl) ?_  -- msg.go:98 t15 := (Op.move t14)
    refine WL.pass (by decide) rfl rfl rfl ?_  -- msg.go:98 t16 := (Op.fieldAddr 33 t1 4) [guard 8 false]
    refine WL.pass (by decide) rfl rfl rfl ?_  -- msg.go:98 t17 := (Op.load 3 t16) [guard 8 false]
    refine WL.pass (by decide) rfl rfl rfl ?_  -- msg.go:98 t18 := (Op.binOp BinOp.lss 3 t17 c(Value.int IntKind.i64 0) 3) [guard 8 false]
    refine WL.op (by decide) (R.pickT rfl rfl) ?_  -- msg.go:98 t19 := (Op.pick t15 c(Value.bool true) t18)
    refine WL.op (by decide) (R.move rfl) ?_  -- msg.go:98 t20 := (Op.move t19)
    refine WL.pass (by decide) rfl rfl rfl ?_  -- msg.go:98 t21 := (Op.fieldAddr 33 t1 4) [guard 13 false]
    refine WL.pass (by decide) rfl rfl rfl ?_  -- msg.go:98 t22 := (Op.load 3 t21) [guard 13 false]
    refine WL.pass (by decide) rfl rfl rfl ?_  -- msg.go:98 t23 := (Op.binOp BinOp.gtr 3 t22 c(Value.int IntKind.i64 15) 3) [guard 13 false]
    refine WL.op (by decide) (R.pickT rfl rfl) ?_  -- msg.go:98 t24 := (Op.pick t20 c(Value.bool true) t23)
    refine WL.op (by decide) (R.move rfl) ?_  -- msg.go:98 t25 := (Op.move t24)
    refine WL.pass (by decide) rfl rfl rfl ?_  -- msg.go:98 t26 := (Op.fieldAddr 33 t1 5) [guard 18 false]
    refine WL.pass (by decide) rfl rfl rfl ?_  -- msg.go:98 t27 := (Op.fieldAddr 25 t26 0) [guard 18 false]
    refine WL.pass (by decide) rfl rfl rfl ?_  -- msg.go:98 t28 := (Op.load 9 t27) [guard 18 false]
    refine WL.pass (by decide) rfl rfl rfl ?_  -- msg.go:98 t29 := (Op.call (Call.mk (Callee.value (Operand.func 50)) [t28] [9])) [guard 18 false]
    refine WL.pass (by decide) rfl rfl rfl ?_  -- msg.go:98 t30 := (Op.unOp UnOp.not 4 t29) [guard 18 false]
    refine WL.op (by decide) (R.pickT rfl rfl) ?_  -- msg.go:98 t31 := (Op.pick t25 c(Value.bool true) t30)
    refine WL.op (by decide) (R.move rfl) ?_  -- msg.go:98 t32 := (Op.move t31)
    refine WL.pass (by decide) rfl rfl rfl ?_  -- msg.go:98 t33 := (Op.fieldAddr 33 t1 5) [guard 25 false]
    refine WL.pass (by decide) rfl rfl rfl ?_  -- msg.go:98 t34 := (Op.fieldAddr 25 t33 1) [guard 25 false]
    refine WL.pass (by decide) rfl rfl rfl ?_  -- msg.go:98 t35 := (Op.load 3 t34) [guard 25 false]
    refine WL.pass (by decide) rfl rfl rfl ?_  -- msg.go:98 t36 := (Op.binOp BinOp.lss 3 t35 c(Value.int IntKind.i64 1) 3) [guard 25 false]
    refine WL.op (by decide) (R.pickT rfl rfl) ?_  -- msg.go:98 t37 := (Op.pick t32 c(Value.bool true) t36)
    refine WL.op (by decide) (R.move rfl) ?_  -- msg.go:98 t38 := (Op.move t37)
    refine WL.pass (by decide) rfl rfl rfl ?_  -- msg.go:98 t39 := (Op.fieldAddr 33 t1 5) [guard 31 false]
    refine WL.pass (by decide) rfl rfl rfl ?_  -- msg.go:98 t40 := (Op.fieldAddr 25 t39 1) [guard 31 false]
    refine WL.pass (by decide) rfl rfl rfl ?_  -- msg.go:98 t41 := (Op.load 3 t40) [guard 31 false]
    refine WL.pass (by decide) rfl rfl rfl ?_  -- msg.go:98 t42 := (Op.binOp BinOp.gtr 3 t41 c(Value.int IntKind.i64 65535) 3) [guard 31 false]
    refine WL.op (by decide) (R.pickT rfl rfl) ?_  -- msg.go:98 t43 := (Op.pick t38 c(Value.bool true) t42)
    refine WL.op (by decide) (R.move rfl) ?_  -- msg.go:98 t44 := (Op.move t43)
    refine WL.pass (by decide) rfl rfl rfl ?_  -- msg.go:98 t45 := (Op.fieldAddr 33 t1 6) [guard 37 false]
    refine WL.pass (by decide) rfl rfl rfl ?_  -- msg.go:98 t46 := (Op.load 31 t45) [guard 37 false]
    refine WL.pass (by decide) rfl rfl rfl ?_  -- msg.go:98 t47 := (Op.call (Call.mk (Callee.builtin Builtin.len) [t46] [31])) [guard 37 false]
    refine WL.pass (by decide) rfl rfl rfl ?_  -- msg.go:98 t48 := (Op.fieldAddr 33 t1 7) [guard 37 false]
    refine WL.pass (by decide) rfl rfl rfl ?_  -- msg.go:98 t49 := (Op.load 31 t48) [guard 37 false]
    refine WL.pass (by decide) rfl rfl rfl ?_  -- msg.go:98 t50 := (Op.call (Call.mk (Callee.builtin Builtin.len) [t49] [31])) [guard 37 false]
    refine WL.pass (by decide) rfl rfl rfl ?_  -- msg.go:98 t51 := (Op.binOp BinOp.add 3 t47 t50 3) [guard 37 false]
    refine WL.pass (by decide) rfl rfl rfl ?_  -- msg.go:98 t52 := (Op.binOp BinOp.gtr 3 t51 c(Value.int IntKind.i64 32) 3) [guard 37 false]
    refine WL.op (by decide) (R.pickT rfl rfl) ?_  -- msg.go:98 t53 := (Op.pick t44 c(Value.bool true) t52)
    refine WL.next ?_
    refine CW.condT rfl ?_
    refine CW.rseq ?_  -- region 2
    refine WL.op (by decide) (R.assign rfl) ?_  -- msg.go:99 t2 := (Op.assign c(Value.bool false))
    refine WL.next ?_
    refine CW.ret ?_
    refine EW.thenRet ?_
    refine EW.ret1 (.inl rfl) rfl rfl ⟨?_, hC⟩
    exact congrArg (fun b => Ending.returned (.bool b)) (show _ = allM m from by unfold allM; first | (simp [*]; done) | (simp [*]; omega) | (simp [*]; intros; omega))
  · skip
    refine WL.op (by decide) (R.move rfl) ?_  -- msg.go:98 t10 := (Op.move t9)
    refine WL.gop (by decide) rfl rfl rfl (FA33_0 rfl) ?_  -- msg.go:98 t11 := (Op.fieldAddr 33 t1 0) [guard 3 false]
    refine WL.gop (by decide) rfl rfl rfl (R.load Tryd.underlying3 rfl rfl (cell_at hB rfl)) ?_  -- msg.go:98 t12 := (Op.load 3 t11) [guard 3 false]
    refine WL.gsplit _ (by decide) rfl rfl rfl (R.gtrD rfl rfl) (fun h2 => ?_) (fun h2 => ?_)  -- msg.go:98 t13 := (Op.binOp BinOp.gtr 3 t12 c(Value.int IntKind.i64 65535) 3) [guard 3 false]
    · skip
      refine WL.op (by decide) (R.pickF rfl rfl) ?_  -- msg.go:98 t14 := (Op.pick t10 c(Value.bool true) t13)
      refine WL.op (by decide) (R.move rfl) ?_  -- msg.go:98 t15 := (Op.move t14)
      refine WL.pass (by decide) rfl rfl rfl ?_  -- msg.go:98 t16 := (Op.fieldAddr 33 t1 4) [guard 8 false]
      refine WL.pass (by decide) rfl rfl rfl ?_  -- msg.go:98 t17 := (Op.load 3 t16) [guard 8 false]
      refine WL.pass (by decide) rfl rfl rfl ?_  -- msg.go:98 t18 := (Op.binOp BinOp.lss 3 t17 c(Value.int IntKind.i64 0) 3) [guard 8 false]
      refine WL.op (by decide) (R.pickT rfl rfl) ?_  -- msg.go:98 t19 := (Op.pick t15 c(Value.bool true) t18)
      refine WL.op (by decide) (R.move rfl) ?_  -- msg.go:98 t20 := (Op.move t19)
      refine WL.pass (by decide) rfl rfl rfl ?_  -- msg.go:98 t21 := (Op.fieldAddr 33 t1 4) [guard 13 false]
      refine WL.pass (by decide) rfl rfl rfl ?_  -- msg.go:98 t22 := (Op.load 3 t21) [guard 13 false]
      refine WL.pass (by decide) rfl rfl rfl ?_  -- msg.go:98 t23 := (Op.binOp BinOp.gtr 3 t22 c(Value.int IntKind.i64 15) 3) [guard 13 false]
      refine WL.op (by decide) (R.pickT rfl rfl) ?_  -- msg.go:98 t24 := (Op.pick t20 c(Value.bool true) t23)
      refine WL.op (by decide) (R.move rfl) ?_  -- msg.go:98 t25 := (Op.move t24)
      refine WL.pass (by decide) rfl rfl rfl ?_  -- msg.go:98 t26 := (Op.fieldAddr 33 t1 5) [guard 18 false]
      refine WL.pass (by decide) rfl rfl rfl ?_  -- msg.go:98 t27 := (Op.fieldAddr 25 t26 0) [guard 18 false]
      refine WL.pass (by decide) rfl rfl rfl ?_  -- msg.go:98 t28 := (Op.load 9 t27) [guard 18 false]
      refine WL.pass (by decide) rfl rfl rfl ?_  -- msg.go:98 t29 := (Op.call (Call.mk (Callee.value (Operand.func 50)) [t28] [9])) [guard 18 false]
      refine WL.pass (by decide) rfl rfl rfl ?_  -- msg.go:98 t30 := (Op.unOp UnOp.not 4 t29) [guard 18 false]
      refine WL.op (by decide) (R.pickT rfl rfl) ?_  -- msg.go:98 t31 := (Op.pick t25 c(Value.bool true) t30)
      refine WL.op (by decide) (R.move rfl) ?_  -- msg.go:98 t32 := (Op.move t31)
      refine WL.pass (by decide) rfl rfl rfl ?_  -- msg.go:98 t33 := (Op.fieldAddr 33 t1 5) [guard 25 false]
      refine WL.pass (by decide) rfl rfl rfl ?_  -- msg.go:98 t34 := (Op.fieldAddr 25 t33 1) [guard 25 false]
      refine WL.pass (by decide) rfl rfl rfl ?_  -- msg.go:98 t35 := (Op.load 3 t34) [guard 25 false]
      refine WL.pass (by decide) rfl rfl rfl ?_  -- msg.go:98 t36 := (Op.binOp BinOp.lss 3 t35 c(Value.int IntKind.i64 1) 3) [guard 25 false]
      refine WL.op (by decide) (R.pickT rfl rfl) ?_  -- msg.go:98 t37 := (Op.pick t32 c(Value.bool true) t36)
      refine WL.op (by decide) (R.move rfl) ?_  -- msg.go:98 t38 := (Op.move t37)
      refine WL.pass (by decide) rfl rfl rfl ?_  -- msg.go:98 t39 := (Op.fieldAddr 33 t1 5) [guard 31 false]
      refine WL.pass (by decide) rfl rfl rfl ?_  -- msg.go:98 t40 := (Op.fieldAddr 25 t39 1) [guard 31 false]
      refine WL.pass (by decide) rfl rfl rfl ?_  -- msg.go:98 t41 := (Op.load 3 t40) [guard 31 false]
      refine WL.pass (by decide) rfl rfl rfl ?_  -- msg.go:98 t42 := (Op.binOp BinOp.gtr 3 t41 c(Value.int IntKind.i64 65535) 3) [guard 31 false]
      refine WL.op (by decide) (R.pickT rfl rfl) ?_  -- msg.go:98 t43 := (Op.pick t38 c(Value.bool true) t42)
      refine WL.op (by decide) (R.move rfl) ?_  -- msg.go:98 t44 := (Op.move t43)
      refine WL.pass (by decide) rfl rfl rfl ?_  -- msg.go:98 t45 := (Op.fieldAddr 33 t1 6) [guard 37 false]
      refine WL.pass (by decide) rfl rfl rfl ?_  -- msg.go:98 t46 := (Op.load 31 t45) [guard 37 false]
      refine WL.pass (by decide) rfl rfl rfl ?_  -- msg.go:98 t47 := (Op.call (Call.mk (Callee.builtin Builtin.len) [t46] [31])) [guard 37 false]
      refine WL.pass (by decide) rfl rfl rfl ?_  -- msg.go:98 t48 := (Op.fieldAddr 33 t1 7) [guard 37 false]
      refine WL.pass (by decide) rfl rfl rfl ?_  -- msg.go:98 t49 := (Op.load 31 t48) [guard 37 false]
      refine WL.pass (by decide) rfl rfl rfl ?_  -- msg.go:98 t50 := (Op.call (Call.mk (Callee.builtin Builtin.len) [t49] [31])) [guard 37 false]
      refine WL.pass (by decide) rfl rfl rfl ?_  -- msg.go:98 t51 := (Op.binOp BinOp.add 3 t47 t50 3) [guard 37 false]
      refine WL.pass (by decide) rfl rfl rfl ?_  -- msg.go:98 t52 := (Op.binOp BinOp.gtr 3 t51 c(Value.int IntKind.i64 32) 3) [guard 37 false]
      refine WL.op (by decide) (R.pickT rfl rfl) ?_  -- msg.go:98 t53 := (Op.pick t44 c(Value.bool true) t52)
      refine WL.next ?_
      refine CW.condT rfl ?_
      refine CW.rseq ?_  -- region 2
      refine WL.op (by decide) (R.assign rfl) ?_  -- msg.go:99 t2 := (Op.assign c(Value.bool false))
      refine WL.next ?_
      refine CW.ret ?_
      refine EW.thenRet ?_
      refine EW.ret1 (.inl rfl) rfl rfl ⟨?_, hC⟩
      exact congrArg (fun b => Ending.returned (.bool b)) (show _ = allM m from by unfold allM; first | (simp [*]; done) | (simp [*]; omega) | (simp [*]; intros; omega))
    · skip
      refine WL.op (by decide) (R.pickF rfl rfl) ?_  -- msg.go:98 t14 := (Op.pick t10 c(Value.bool true) t13)
      refine WL.op (by decide) (R.move rfl) ?_  -- msg.go:98 t15 := (Op.move t14)
      refine WL.gop (by decide) rfl rfl rfl (FA33_4 rfl) ?_  -- msg.go:98 t16 := (Op.fieldAddr 33 t1 4) [guard 8 false]
      refine WL.gop (by decide) rfl rfl rfl (R.load Tryd.underlying3 rfl rfl (cell_at hB rfl)) ?_  -- msg.go:98 t17 := (Op.load 3 t16) [guard 8 false]
      refine WL.gsplit _ (by decide) rfl rfl rfl (R.lssD rfl rfl) (fun h3 => ?_) (fun h3 => ?_)  -- msg.go:98 t18 := (Op.binOp BinOp.lss 3 t17 c(Value.int IntKind.i64 0) 3) [guard 8 false]
      · skip
        refine WL.op (by decide) (R.pickF rfl rfl) ?_  -- msg.go:98 t19 := (Op.pick t15 c(Value.bool true) t18)
        refine WL.op (by decide) (R.move rfl) ?_  -- msg.go:98 t20 := (Op.move t19)
        refine WL.pass (by decide) rfl rfl rfl ?_  -- msg.go:98 t21 := (Op.fieldAddr 33 t1 4) [guard 13 false]
        refine WL.pass (by decide) rfl rfl rfl ?_  -- msg.go:98 t22 := (Op.load 3 t21) [guard 13 false]
        refine WL.pass (by decide) rfl rfl rfl ?_  -- msg.go:98 t23 := (Op.binOp BinOp.gtr 3 t22 c(Value.int IntKind.i64 15) 3) [guard 13 false]
        refine WL.op (by decide) (R.pickT rfl rfl) ?_  -- msg.go:98 t24 := (Op.pick t20 c(Value.bool true) t23)
        refine WL.op (by decide) (R.move rfl) ?_  -- msg.go:98 t25 := (Op.move t24)
        refine WL.pass (by decide) rfl rfl rfl ?_  -- msg.go:98 t26 := (Op.fieldAddr 33 t1 5) [guard 18 false]
        refine WL.pass (by decide) rfl rfl rfl ?_  -- msg.go:98 t27 := (Op.fieldAddr 25 t26 0) [guard 18 false]
        refine WL.pass (by decide) rfl rfl rfl ?_  -- msg.go:98 t28 := (Op.load 9 t27) [guard 18 false]
        refine WL.pass (by decide) rfl rfl rfl ?_  -- msg.go:98 t29 := (Op.call (Call.mk (Callee.value (Operand.func 50)) [t28] [9])) [guard 18 false]
        refine WL.pass (by decide) rfl rfl rfl ?_  -- msg.go:98 t30 := (Op.unOp UnOp.not 4 t29) [guard 18 false]
        refine WL.op (by decide) (R.pickT rfl rfl) ?_  -- msg.go:98 t31 := (Op.pick t25 c(Value.bool true) t30)
        refine WL.op (by decide) (R.move rfl) ?_  -- msg.go:98 t32 := (Op.move t31)
        refine WL.pass (by decide) rfl rfl rfl ?_  -- msg.go:98 t33 := (Op.fieldAddr 33 t1 5) [guard 25 false]
        refine WL.pass (by decide) rfl rfl rfl ?_  -- msg.go:98 t34 := (Op.fieldAddr 25 t33 1) [guard 25 false]
        refine WL.pass (by decide) rfl rfl rfl ?_  -- msg.go:98 t35 := (Op.load 3 t34) [guard 25 false]
        refine WL.pass (by decide) rfl rfl rfl ?_  -- msg.go:98 t36 := (Op.binOp BinOp.lss 3 t35 c(Value.int IntKind.i64 1) 3) [guard 25 false]
        refine WL.op (by decide) (R.pickT rfl rfl) ?_  -- msg.go:98 t37 := (Op.pick t32 c(Value.bool true) t36)
        refine WL.op (by decide) (R.move rfl) ?_  -- msg.go:98 t38 := (Op.move t37)
        refine WL.pass (by decide) rfl rfl rfl ?_  -- msg.go:98 t39 := (Op.fieldAddr 33 t1 5) [guard 31 false]
        refine WL.pass (by decide) rfl rfl rfl ?_  -- msg.go:98 t40 := (Op.fieldAddr 25 t39 1) [guard 31 false]
        refine WL.pass (by decide) rfl rfl rfl ?_  -- msg.go:98 t41 := (Op.load 3 t40) [guard 31 false]
        refine WL.pass (by decide) rfl rfl rfl ?_  -- msg.go:98 t42 := (Op.binOp BinOp.gtr 3 t41 c(Value.int IntKind.i64 65535) 3) [guard 31 false]
        refine WL.op (by decide) (R.pickT rfl rfl) ?_  -- msg.go:98 t43 := (Op.pick t38 c(Value.bool true) t42)
        refine WL.op (by decide) (R.move rfl) ?_  -- msg.go:98 t44 := (Op.move t43)
        refine WL.pass (by decide) rfl rfl rfl ?_  -- msg.go:98 t45 := (Op.fieldAddr 33 t1 6) [guard 37 false]
        refine WL.pass (by decide) rfl rfl rfl ?_  -- msg.go:98 t46 := (Op.load 31 t45) [guard 37 false]
        refine WL.pass (by decide) rfl rfl rfl ?_  -- msg.go:98 t47 := (Op.call (Call.mk (Callee.builtin Builtin.len) [t46] [31])) [guard 37 false]
        refine WL.pass (by decide) rfl rfl rfl ?_  -- msg.go:98 t48 := (Op.fieldAddr 33 t1 7) [guard 37 false]
        refine WL.pass (by decide) rfl rfl rfl ?_  -- msg.go:98 t49 := (Op.load 31 t48) [guard 37 false]
        refine WL.pass (by decide) rfl rfl rfl ?_  -- msg.go:98 t50 := (Op.call (Call.mk (Callee.builtin Builtin.len) [t49] [31])) [guard 37 false]
        refine WL.pass (by decide) rfl rfl rfl ?_  -- msg.go:98 t51 := (Op.binOp BinOp.add 3 t47 t50 3) [guard 37 false]
        refine WL.pass (by decide) rfl rfl rfl ?_  -- msg.go:98 t52 := (Op.binOp BinOp.gtr 3 t51 c(Value.int IntKind.i64 32) 3) [guard 37 false]
        refine WL.op (by decide) (R.pickT rfl rfl) ?_  -- msg.go:98 t53 := (Op.pick t44 c(Value.bool true) t52)
        refine WL.next ?_
        refine CW.condT rfl ?_
        refine CW.rseq ?_  -- region 2
        refine WL.op (by decide) (R.assign rfl) ?_  -- msg.go:99 t2 := (Op.assign c(Value.bool false))
        refine WL.next ?_
        refine CW.ret ?_
        refine EW.thenRet ?_
        refine EW.ret1 (.inl rfl) rfl rfl ⟨?_, hC⟩
        exact congrArg (fun b => Ending.returned (.bool b)) (show _ = allM m from by unfold allM; first | (simp [*]; done) | (simp [*]; omega) | (simp [*]; intros; omega))
      · skip
        refine WL.op (by decide) (R.pickF rfl rfl) ?_  -- msg.go:98 t19 := (Op.pick t15 c(Value.bool true) t18)
        refine WL.op (by decide) (R.move rfl) ?_  -- msg.go:98 t20 := (Op.move t19)
        refine WL.gop (by decide) rfl rfl rfl (FA33_4 rfl) ?_  -- msg.go:98 t21 := (Op.fieldAddr 33 t1 4) [guard 13 false]
        refine WL.gop (by decide) rfl rfl rfl (R.load Tryd.underlying3 rfl rfl (cell_at hB rfl)) ?_  -- msg.go:98 t22 := (Op.load 3 t21) [guard 13 false]
        refine WL.gsplit _ (by decide) rfl rfl rfl (R.gtrD rfl rfl) (fun h4 => ?_) (fun h4 => ?_)  -- msg.go:98 t23 := (Op.binOp BinOp.gtr 3 t22 c(Value.int IntKind.i64 15) 3) [guard 13 false]
        · skip
          refine WL.op (by decide) (R.pickF rfl rfl) ?_  -- msg.go:98 t24 := (Op.pick t20 c(Value.bool true) t23)
          refine WL.op (by decide) (R.move rfl) ?_  -- msg.go:98 t25 := (Op.move t24)
          refine WL.pass (by decide) rfl rfl rfl ?_  -- msg.go:98 t26 := (Op.fieldAddr 33 t1 5) [guard 18 false]
          refine WL.pass (by decide) rfl rfl rfl ?_  -- msg.go:98 t27 := (Op.fieldAddr 25 t26 0) [guard 18 false]
          refine WL.pass (by decide) rfl rfl rfl ?_  -- msg.go:98 t28 := (Op.load 9 t27) [guard 18 false]
          refine WL.pass (by decide) rfl rfl rfl ?_  -- msg.go:98 t29 := (Op.call (Call.mk (Callee.value (Operand.func 50)) [t28] [9])) [guard 18 false]
          refine WL.pass (by decide) rfl rfl rfl ?_  -- msg.go:98 t30 := (Op.unOp UnOp.not 4 t29) [guard 18 false]
          refine WL.op (by decide) (R.pickT rfl rfl) ?_  -- msg.go:98 t31 := (Op.pick t25 c(Value.bool true) t30)
          refine WL.op (by decide) (R.move rfl) ?_  -- msg.go:98 t32 := (Op.move t31)
          refine WL.pass (by decide) rfl rfl rfl ?_  -- msg.go:98 t33 := (Op.fieldAddr 33 t1 5) [guard 25 false]
          refine WL.pass (by decide) rfl rfl rfl ?_  -- msg.go:98 t34 := (Op.fieldAddr 25 t33 1) [guard 25 false]
          refine WL.pass (by decide) rfl rfl rfl ?_  -- msg.go:98 t35 := (Op.load 3 t34) [guard 25 false]
          refine WL.pass (by decide) rfl rfl rfl ?_  -- msg.go:98 t36 := (Op.binOp BinOp.lss 3 t35 c(Value.int IntKind.i64 1) 3) [guard 25 false]
          refine WL.op (by decide) (R.pickT rfl rfl) ?_  -- msg.go:98 t37 := (Op.pick t32 c(Value.bool true) t36)
          refine WL.op (by decide) (R.move rfl) ?_  -- msg.go:98 t38 := (Op.move t37)
          refine WL.pass (by decide) rfl rfl rfl ?_  -- msg.go:98 t39 := (Op.fieldAddr 33 t1 5) [guard 31 false]
          refine WL.pass (by decide) rfl rfl rfl ?_  -- msg.go:98 t40 := (Op.fieldAddr 25 t39 1) [guard 31 false]
          refine WL.pass (by decide) rfl rfl rfl ?_  -- msg.go:98 t41 := (Op.load 3 t40) [guard 31 false]
          refine WL.pass (by decide) rfl rfl rfl ?_  -- msg.go:98 t42 := (Op.binOp BinOp.gtr 3 t41 c(Value.int IntKind.i64 65535) 3) [guard 31 false]
          refine WL.op (by decide) (R.pickT rfl rfl) ?_  -- msg.go:98 t43 := (Op.pick t38 c(Value.bool true) t42)
          refine WL.op (by decide) (R.move rfl) ?_  -- msg.go:98 t44 := (Op.move t43)
          refine WL.pass (by decide) rfl rfl rfl ?_  -- msg.go:98 t45 := (Op.fieldAddr 33 t1 6) [guard 37 false]
          refine WL.pass (by decide) rfl rfl rfl ?_  -- msg.go:98 t46 := (Op.load 31 t45) [guard 37 false]
          refine WL.pass (by decide) rfl rfl rfl ?_  -- msg.go:98 t47 := (Op.call (Call.mk (Callee.builtin Builtin.len) [t46] [31])) [guard 37 false]
          refine WL.pass (by decide) rfl rfl rfl ?_  -- msg.go:98 t48 := (Op.fieldAddr 33 t1 7) [guard 37 false]
          refine WL.pass (by decide) rfl rfl rfl ?_  -- msg.go:98 t49 := (Op.load 31 t48) [guard 37 false]
          refine WL.pass (by decide) rfl rfl rfl ?_  -- msg.go:98 t50 := (Op.call (Call.mk (Callee.builtin Builtin.len) [t49] [31])) [guard 37 false]
          refine WL.pass (by decide) rfl rfl rfl ?_  -- msg.go:98 t51 := (Op.binOp BinOp.add 3 t47 t50 3) [guard 37 false]
          refine WL.pass (by decide) rfl rfl rfl ?_  -- msg.go:98 t52 := (Op.binOp BinOp.gtr 3 t51 c(Value.int IntKind.i64 32) 3) [guard 37 false]
          refine WL.op (by decide) (R.pickT rfl rfl) ?_  -- msg.go:98 t53 := (Op.pick t44 c(Value.bool true) t52)
          refine WL.next ?_
          refine CW.condT rfl ?_
          refine CW.rseq ?_  -- region 2
          refine WL.op (by decide) (R.assign rfl) ?_  -- msg.go:99 t2 := (Op.assign c(Value.bool false))
          refine WL.next ?_
          refine CW.ret ?_
          refine EW.thenRet ?_
          refine EW.ret1 (.inl rfl) rfl rfl ⟨?_, hC⟩
          exact congrArg (fun b => Ending.returned (.bool b)) (show _ = allM m from by unfold allM; first | (simp [*]; done) | (simp [*]; omega) | (simp [*]; intros; omega))
        · skip
          refine WL.op (by decide) (R.pickF rfl rfl) ?_  -- msg.go:98 t24 := (Op.pick t20 c(Value.bool true) t23)
          refine WL.op (by decide) (R.move rfl) ?_  -- msg.go:98 t25 := (Op.move t24)
          refine WL.gop (by decide) rfl rfl rfl (FA33_5 rfl) ?_  -- msg.go:98 t26 := (Op.fieldAddr 33 t1 5) [guard 18 false]
          refine WL.gop (by decide) rfl rfl rfl (FA25_0 rfl) ?_  -- msg.go:98 t27 := (Op.fieldAddr 25 t26 0) [guard 18 false]
          refine WL.gop (by decide) rfl rfl rfl (R.load Tryd.underlying9 rfl rfl (cell_at hB rfl)) ?_  -- msg.go:98 t28 := (Op.load 9 t27) [guard 18 false]
          refine WL.geff rfl rfl rfl (OP.call (by decide) Tryd.func50 (by kernel_rfl) (by kernel_rfl) rfl (names_any m.qname w1 hl1) ?_)
          rintro e w2 ⟨rfl, hc2⟩
          refine ⟨_, rfl, ?_⟩
          have hB := hc2.at hB (fun h => h)
          have hC := hC.trans hc2
          have hG := hG.kept hc2 (fun h => h)
          have hva := hva.kept hc2 (fun _ _ h => h)
          have hvb := hvb.kept hc2 (fun _ _ h => h)
          cases hn : namesL m.qname
          · skip
            refine WL.gop (by decide) rfl rfl rfl (R.not rfl) ?_
            refine WL.op (by decide) (R.pickF rfl rfl) ?_  -- msg.go:98 t31 := (Op.pick t25 c(Value.bool true) t30)
            refine WL.op (by decide) (R.move rfl) ?_  -- msg.go:98 t32 := (Op.move t31)
            refine WL.pass (by decide) rfl rfl rfl ?_  -- msg.go:98 t33 := (Op.fieldAddr 33 t1 5) [guard 25 false]
            refine WL.pass (by decide) rfl rfl rfl ?_  -- msg.go:98 t34 := (Op.fieldAddr 25 t33 1) [guard 25 false]
            refine WL.pass (by decide) rfl rfl rfl ?_  -- msg.go:98 t35 := (Op.load 3 t34) [guard 25 false]
            refine WL.pass (by decide) rfl rfl rfl ?_  -- msg.go:98 t36 := (Op.binOp BinOp.lss 3 t35 c(Value.int IntKind.i64 1) 3) [guard 25 false]
            refine WL.op (by decide) (R.pickT rfl rfl) ?_  -- msg.go:98 t37 := (Op.pick t32 c(Value.bool true) t36)
            refine WL.op (by decide) (R.move rfl) ?_  -- msg.go:98 t38 := (Op.move t37)
            refine WL.pass (by decide) rfl rfl rfl ?_  -- msg.go:98 t39 := (Op.fieldAddr 33 t1 5) [guard 31 false]
            refine WL.pass (by decide) rfl rfl rfl ?_  -- msg.go:98 t40 := (Op.fieldAddr 25 t39 1) [guard 31 false]
            refine WL.pass (by decide) rfl rfl rfl ?_  -- msg.go:98 t41 := (Op.load 3 t40) [guard 31 false]
            refine WL.pass (by decide) rfl rfl rfl ?_  -- msg.go:98 t42 := (Op.binOp BinOp.gtr 3 t41 c(Value.int IntKind.i64 65535) 3) [guard 31 false]
            refine WL.op (by decide) (R.pickT rfl rfl) ?_  -- msg.go:98 t43 := (Op.pick t38 c(Value.bool true) t42)
            refine WL.op (by decide) (R.move rfl) ?_  -- msg.go:98 t44 := (Op.move t43)
            refine WL.pass (by decide) rfl rfl rfl ?_  -- msg.go:98 t45 := (Op.fieldAddr 33 t1 6) [guard 37 false]
            refine WL.pass (by decide) rfl rfl rfl ?_  -- msg.go:98 t46 := (Op.load 31 t45) [guard 37 false]
            refine WL.pass (by decide) rfl rfl rfl ?_  -- msg.go:98 t47 := (Op.call (Call.mk (Callee.builtin Builtin.len) [t46] [31])) [guard 37 false]
            refine WL.pass (by decide) rfl rfl rfl ?_  -- msg.go:98 t48 := (Op.fieldAddr 33 t1 7) [guard 37 false]
            refine WL.pass (by decide) rfl rfl rfl ?_  -- msg.go:98 t49 := (Op.load 31 t48) [guard 37 false]
            refine WL.pass (by decide) rfl rfl rfl ?_  -- msg.go:98 t50 := (Op.call (Call.mk (Callee.builtin Builtin.len) [t49] [31])) [guard 37 false]
            refine WL.pass (by decide) rfl rfl rfl ?_  -- msg.go:98 t51 := (Op.binOp BinOp.add 3 t47 t50 3) [guard 37 false]
            refine WL.pass (by decide) rfl rfl rfl ?_  -- msg.go:98 t52 := (Op.binOp BinOp.gtr 3 t51 c(Value.int IntKind.i64 32) 3) [guard 37 false]
            refine WL.op (by decide) (R.pickT rfl rfl) ?_  -- msg.go:98 t53 := (Op.pick t44 c(Value.bool true) t52)
            refine WL.next ?_
            refine CW.condT rfl ?_
            refine CW.rseq ?_  -- region 2
            refine WL.op (by decide) (R.assign rfl) ?_  -- msg.go:99 t2 := (Op.assign c(Value.bool false))
            refine WL.next ?_
            refine CW.ret ?_
            refine EW.thenRet ?_
            refine EW.ret1 (.inl rfl) rfl rfl ⟨?_, hC⟩
            exact congrArg (fun b => Ending.returned (.bool b)) (show _ = allM m from by unfold allM; first | (simp [*]; done) | (simp [*]; omega) | (simp [*]; intros; omega))
          · skip
            refine WL.gop (by decide) rfl rfl rfl (R.not rfl) ?_
            refine WL.op (by decide) (R.pickF rfl rfl) ?_  -- msg.go:98 t31 := (Op.pick t25 c(Value.bool true) t30)
            refine WL.op (by decide) (R.move rfl) ?_  -- msg.go:98 t32 := (Op.move t31)
            refine WL.gop (by decide) rfl rfl rfl (FA33_5 rfl) ?_  -- msg.go:98 t33 := (Op.fieldAddr 33 t1 5) [guard 25 false]
            refine WL.gop (by decide) rfl rfl rfl (FA25_1 rfl) ?_  -- msg.go:98 t34 := (Op.fieldAddr 25 t33 1) [guard 25 false]
            refine WL.gop (by decide) rfl rfl rfl (R.load Tryd.underlying3 rfl rfl (cell_at hB rfl)) ?_  -- msg.go:98 t35 := (Op.load 3 t34) [guard 25 false]
            refine WL.gsplit _ (by decide) rfl rfl rfl (R.lssD rfl rfl) (fun h5 => ?_) (fun h5 => ?_)  -- msg.go:98 t36 := (Op.binOp BinOp.lss 3 t35 c(Value.int IntKind.i64 1) 3) [guard 25 false]
            · skip
              refine WL.op (by decide) (R.pickF rfl rfl) ?_  -- msg.go:98 t37 := (Op.pick t32 c(Value.bool true) t36)
              refine WL.op (by decide) (R.move rfl) ?_  -- msg.go:98 t38 := (Op.move t37)
              refine WL.pass (by decide) rfl rfl rfl ?_  -- msg.go:98 t39 := (Op.fieldAddr 33 t1 5) [guard 31 false]
              refine WL.pass (by decide) rfl rfl rfl ?_  -- msg.go:98 t40 := (Op.fieldAddr 25 t39 1) [guard 31 false]
              refine WL.pass (by decide) rfl rfl rfl ?_  -- msg.go:98 t41 := (Op.load 3 t40) [guard 31 false]
              refine WL.pass (by decide) rfl rfl rfl ?_  -- msg.go:98 t42 := (Op.binOp BinOp.gtr 3 t41 c(Value.int IntKind.i64 65535) 3) [guard 31 false]
              refine WL.op (by decide) (R.pickT rfl rfl) ?_  -- msg.go:98 t43 := (Op.pick t38 c(Value.bool true) t42)
              refine WL.op (by decide) (R.move rfl) ?_  -- msg.go:98 t44 := (Op.move t43)
              refine WL.pass (by decide) rfl rfl rfl ?_  -- msg.go:98 t45 := (Op.fieldAddr 33 t1 6) [guard 37 false]
              refine WL.pass (by decide) rfl rfl rfl ?_  -- msg.go:98 t46 := (Op.load 31 t45) [guard 37 false]
              refine WL.pass (by decide) rfl rfl rfl ?_  -- msg.go:98 t47 := (Op.call (Call.mk (Callee.builtin Builtin.len) [t46] [31])) [guard 37 false]
              refine WL.pass (by decide) rfl rfl rfl ?_  -- msg.go:98 t48 := (Op.fieldAddr 33 t1 7) [guard 37 false]
              refine WL.pass (by decide) rfl rfl rfl ?_  -- msg.go:98 t49 := (Op.load 31 t48) [guard 37 false]
              refine WL.pass (by decide) rfl rfl rfl ?_  -- msg.go:98 t50 := (Op.call (Call.mk (Callee.builtin Builtin.len) [t49] [31])) [guard 37 false]
              refine WL.pass (by decide) rfl rfl rfl ?_  -- msg.go:98 t51 := (Op.binOp BinOp.add 3 t47 t50 3) [guard 37 false]
              refine WL.pass (by decide) rfl rfl rfl ?_  -- msg.go:98 t52 := (Op.binOp BinOp.gtr 3 t51 c(Value.int IntKind.i64 32) 3) [guard 37 false]
              refine WL.op (by decide) (R.pickT rfl rfl) ?_  -- msg.go:98 t53 := (Op.pick t44 c(Value.bool true) t52)
              refine WL.next ?_
              refine CW.condT rfl ?_
              refine CW.rseq ?_  -- region 2
              refine WL.op (by decide) (R.assign rfl) ?_  -- msg.go:99 t2 := (Op.assign c(Value.bool false))
              refine WL.next ?_
              refine CW.ret ?_
              refine EW.thenRet ?_
              refine EW.ret1 (.inl rfl) rfl rfl ⟨?_, hC⟩
              exact congrArg (fun b => Ending.returned (.bool b)) (show _ = allM m from by unfold allM; first | (simp [*]; done) | (simp [*]; omega) | (simp [*]; intros; omega))
            · skip
              refine WL.op (by decide) (R.pickF rfl rfl) ?_  -- msg.go:98 t37 := (Op.pick t32 c(Value.bool true) t36)
              refine WL.op (by decide) (R.move rfl) ?_  -- msg.go:98 t38 := (Op.move t37)
              refine WL.gop (by decide) rfl rfl rfl (FA33_5 rfl) ?_  -- msg.go:98 t39 := (Op.fieldAddr 33 t1 5) [guard 31 false]
              refine WL.gop (by decide) rfl rfl rfl (FA25_1 rfl) ?_  -- msg.go:98 t40 := (Op.fieldAddr 25 t39 1) [guard 31 false]
              refine WL.gop (by decide) rfl rfl rfl (R.load Tryd.underlying3 rfl rfl (cell_at hB rfl)) ?_  -- msg.go:98 t41 := (Op.load 3 t40) [guard 31 false]
              refine WL.gsplit _ (by decide) rfl rfl rfl (R.gtrD rfl rfl) (fun h6 => ?_) (fun h6 => ?_)  -- msg.go:98 t42 := (Op.binOp BinOp.gtr 3 t41 c(Value.int IntKind.i64 65535) 3) [guard 31 false]
              · skip
                refine WL.op (by decide) (R.pickF rfl rfl) ?_  -- msg.go:98 t43 := (Op.pick t38 c(Value.bool true) t42)
                refine WL.op (by decide) (R.move rfl) ?_  -- msg.go:98 t44 := (Op.move t43)
                refine WL.pass (by decide) rfl rfl rfl ?_  -- msg.go:98 t45 := (Op.fieldAddr 33 t1 6) [guard 37 false]
                refine WL.pass (by decide) rfl rfl rfl ?_  -- msg.go:98 t46 := (Op.load 31 t45) [guard 37 false]
                refine WL.pass (by decide) rfl rfl rfl ?_  -- msg.go:98 t47 := (Op.call (Call.mk (Callee.builtin Builtin.len) [t46] [31])) [guard 37 false]
                refine WL.pass (by decide) rfl rfl rfl ?_  -- msg.go:98 t48 := (Op.fieldAddr 33 t1 7) [guard 37 false]
                refine WL.pass (by decide) rfl rfl rfl ?_  -- msg.go:98 t49 := (Op.load 31 t48) [guard 37 false]
                refine WL.pass (by decide) rfl rfl rfl ?_  -- msg.go:98 t50 := (Op.call (Call.mk (Callee.builtin Builtin.len) [t49] [31])) [guard 37 false]
                refine WL.pass (by decide) rfl rfl rfl ?_  -- msg.go:98 t51 := (Op.binOp BinOp.add 3 t47 t50 3) [guard 37 false]
                refine WL.pass (by decide) rfl rfl rfl ?_  -- msg.go:98 t52 := (Op.binOp BinOp.gtr 3 t51 c(Value.int IntKind.i64 32) 3) [guard 37 false]
                refine WL.op (by decide) (R.pickT rfl rfl) ?_  -- msg.go:98 t53 := (Op.pick t44 c(Value.bool true) t52)
                refine WL.next ?_
                refine CW.condT rfl ?_
                refine CW.rseq ?_  -- region 2
                refine WL.op (by decide) (R.assign rfl) ?_  -- msg.go:99 t2 := (Op.assign c(Value.bool false))
                refine WL.next ?_
                refine CW.ret ?_
                refine EW.thenRet ?_
                refine EW.ret1 (.inl rfl) rfl rfl ⟨?_, hC⟩
                exact congrArg (fun b => Ending.returned (.bool b)) (show _ = allM m from by unfold allM; first | (simp [*]; done) | (simp [*]; omega) | (simp [*]; intros; omega))
              · skip
                refine WL.op (by decide) (R.pickF rfl rfl) ?_  -- msg.go:98 t43 := (Op.pick t38 c(Value.bool true) t42)
                refine WL.op (by decide) (R.move rfl) ?_  -- msg.go:98 t44 := (Op.move t43)
                refine WL.gop (by decide) rfl rfl rfl (FA33_6 rfl) ?_  -- msg.go:98 t45 := (Op.fieldAddr 33 t1 6) [guard 37 false]
                refine WL.gop (by decide) rfl rfl rfl (R.load Tryd.underlying31 rfl rfl (cell_at hB rfl)) ?_  -- msg.go:98 t46 := (Op.load 31 t45) [guard 37 false]
                refine WL.gop (by decide) rfl rfl rfl (R.lenSlice rfl Tryd.underlying31 rfl) ?_  -- msg.go:98 t47 := (Op.call (Call.mk (Callee.builtin Builtin.len) [t46] [31])) [guard 37 false]
                refine WL.gop (by decide) rfl rfl rfl (FA33_7 rfl) ?_  -- msg.go:98 t48 := (Op.fieldAddr 33 t1 7) [guard 37 false]
                refine WL.gop (by decide) rfl rfl rfl (R.load Tryd.underlying31 rfl rfl (cell_at hB rfl)) ?_  -- msg.go:98 t49 := (Op.load 31 t48) [guard 37 false]
                refine WL.gop (by decide) rfl rfl rfl (R.lenSlice rfl Tryd.underlying31 rfl) ?_  -- msg.go:98 t50 := (Op.call (Call.mk (Callee.builtin Builtin.len) [t49] [31])) [guard 37 false]
                refine WL.gop (by decide) rfl rfl rfl (R.add rfl rfl (by omega)) ?_  -- msg.go:98 t51 := (Op.binOp BinOp.add 3 t47 t50 3) [guard 37 false]
                refine WL.gsplit _ (by decide) rfl rfl rfl (R.gtrD rfl rfl) (fun h7 => ?_) (fun h7 => ?_)  -- msg.go:98 t52 := (Op.binOp BinOp.gtr 3 t51 c(Value.int IntKind.i64 32) 3) [guard 37 false]
                · skip
                  refine WL.op (by decide) (R.pickF rfl rfl) ?_  -- msg.go:98 t53 := (Op.pick t44 c(Value.bool true) t52)
                  refine WL.next ?_
                  refine CW.condT rfl ?_
                  refine CW.rseq ?_  -- region 2
                  refine WL.op (by decide) (R.assign rfl) ?_  -- msg.go:99 t2 := (Op.assign c(Value.bool false))
                  refine WL.next ?_
                  refine CW.ret ?_
                  refine EW.thenRet ?_
                  refine EW.ret1 (.inl rfl) rfl rfl ⟨?_, hC⟩
                  exact congrArg (fun b => Ending.returned (.bool b)) (show _ = allM m from by unfold allM; first | (simp [*]; done) | (simp [*]; omega) | (simp [*]; intros; omega))
                · skip
                  refine WL.op (by decide) (R.pickF rfl rfl) ?_  -- msg.go:98 t53 := (Op.pick t44 c(Value.bool true) t52)
                  refine WL.next ?_
                  refine CW.condF rfl ?_
                  refine CW.skip ?_
                  refine EW.next ?_
                  refine CW.seq ?_
                  refine CW.rseq ?_  -- region 3
                  refine WL.op (by decide) (FA33_6 rfl) ?_  -- msg.go:101 t54 := (Op.fieldAddr 33 t1 6)
                  refine WL.op (by decide) (R.load Tryd.underlying31 rfl rfl (cell_at hB rfl)) ?_  -- msg.go:101 t55 := (Op.load 31 t54)
                  refine WL.op (by decide) (FA33_7 rfl) ?_  -- msg.go:101 t56 := (Op.fieldAddr 33 t1 7)
                  refine WL.op (by decide) (R.load Tryd.underlying31 rfl rfl (cell_at hB rfl)) ?_  -- msg.go:101 t57 := (Op.load 31 t56)
                  refine WL.op (by decide) (R.build (parts := [(0, _), (1, _)]) (vals := [(0, _), (1, _)]) rfl (fun w => build106 _ _ _ _ _ _ w)) ?_  -- msg.go:101 t58 := (Op.build 106 [(0, t55), (1, t57)])
                  refine WL.op (by decide) (R.move rfl) ?_  -- msg.go:101 t59 := (Op.move c(Value.int IntKind.i64 0))
                  refine WL.next ?_
                  refine CW.block ?_
                  refine CW.loopK [58, 59] (fun k l wr => Chg (fun _ => False) w0 wr ∧ Glob wr ∧ RSl wr (.slice Aa m.ans.length ca) m.ans ∧ RSl wr (.slice Ab m.auth.length cb) m.auth ∧ ∃ (i : Nat) (ii : Int), i + k = 2 ∧ ii = (i : Int) ∧ l = [(58, .agg #[.slice Aa m.ans.length ca, .slice Ab m.auth.length cb]), (59, .int .i64 ii)] ∧ ∀ (j : Nat) (rs : List Rec), [m.ans, m.auth][j]? = some rs → j < i → rs.all rightR = true) (2) ?_ ?_
                  · exact ⟨hC, hG, hva, hvb, 0, 0, by omega, rfl, rfl, fun j rs _ h => by omega⟩
                  · rintro k l wr ⟨hC, hG, hva, hvb, i, ii, hk, rfl, rfl, hall⟩
                    refine CW.rseq ?_  -- region 4
                    refine WL.lssS (by decide) rfl rfl (fun h8 => ?_) (fun h8 => ?_)  -- msg.go:101 t60 := (Op.binOp BinOp.lss 3 t59 c(Value.int IntKind.i64 2) 3)
                    · skip
                      refine WL.next ?_
                      refine CW.seq ?_
                      refine CW.condT rfl ?_
                      refine CW.skip ?_
                      refine EW.next ?_
                      refine CW.seq ?_
                      refine CW.block ?_
                      refine CW.rseq ?_  -- region 5
                      obtain ⟨rs, A, c, hrs, hv, hsl, hlr⟩ := elem_of hva hvb (i := i) (by omega)
                      have hfalse : rs.all rightR = false → allM m = false := all_bad hrs
                      refine WL.op (by decide) (R.index1 Tryd.underlying106 Tryd.underlying31 rfl sz31 rfl rfl rfl (by omega) hv) ?_
                      refine WL.op (by decide) (R.assign rfl) ?_  -- msg.go:101 t4 := (Op.assign t61)
                      refine WL.next ?_
                      refine CW.rseq ?_  -- region 6
                      refine WL.op (by decide) (R.move rfl) ?_  -- msg.go:102 t62 := (Op.move t4)
                      refine WL.op (by decide) (R.lenSlice rfl Tryd.underlying31 rfl) ?_  -- msg.go:102 t63 := (Op.call (Call.mk (Callee.builtin Builtin.len) [t62] [31]))
                      refine WL.op (by decide) (R.move rfl) ?_  -- msg.go:102 t64 := (Op.move c(Value.int IntKind.i64 0))
                      refine WL.next ?_
                      refine CW.block ?_
                      refine CW.loopK [58, 59, 62, 63, 64] (fun k l wi => Chg (fun _ => False) w0 wi ∧ Glob wi ∧ RSl wi (.slice Aa m.ans.length ca) m.ans ∧ RSl wi (.slice Ab m.auth.length cb) m.auth ∧ RSl wi (.slice A rs.length c) rs ∧ ∃ (j : Nat) (jj : Int), j + k = rs.length ∧ jj = (j : Int) ∧ l = [(58, .agg #[.slice Aa m.ans.length ca, .slice Ab m.auth.length cb]), (59, .int .i64 i), (62, .slice A rs.length c), (63, .int .i64 rs.length), (64, .int .i64 jj)] ∧ (rs.take j).all rightR = true) (rs.length) ?_ ?_
                      · exact ⟨hC, hG, hva, hvb, hsl, 0, 0, by omega, rfl, rfl, rfl⟩
                      · rintro k2 l wi ⟨hCi, hG2, hva2, hvb2, hsl2, j, jj, hk2, rfl, rfl, htk⟩
                        refine CW.rseq ?_  -- region 7
                        refine WL.lssS (by decide) rfl rfl (fun h9 => ?_) (fun h9 => ?_)  -- msg.go:102 t65 := (Op.binOp BinOp.lss 3 t64 t63 3)
                        · skip
                          refine WL.next ?_
                          refine CW.seq ?_
                          refine CW.condT rfl ?_
                          refine CW.skip ?_
                          refine EW.next ?_
                          refine CW.seq ?_
                          refine CW.block ?_
                          refine CW.rseq ?_  -- region 8
                          obtain ⟨x, hx⟩ : ∃ x, rs[j]? = some x := ⟨rs[j]'(by omega), List.getElem?_eq_getElem _⟩
                          obtain ⟨hx16, _, g, o, rfl, hcell⟩ := hsl2.at hx
                          refine WL.op (by decide) (R.indexAddr1 (i := j) Tryd.underlying31 sz57 rfl rfl rfl (by omega)) ?_
                          refine WL.op (by decide) (R.loadR hx16 rfl hcell) ?_  -- msg.go:102 t67 := (Op.load 57 t66)
                          refine WL.eff rfl (OP.allocR (by decide) ?_)
                          intro w3 hc3 hs3 hb3
                          refine WL.eff rfl (OP.storeR rfl rfl hx16 (by rfl) hb3 ?_)
                          intro w4 hc4 hs4 hb4
                          refine WL.next ?_
                          refine CW.rseq ?_  -- region 9
                          refine WL.op (by decide) (R.loadRB hx16 rfl hb4) ?_  -- msg.go:103 t68 := (Op.load 57 t6)
                          have hc34 : Chg (fun _ => False) wi w4 := hc3.then hc4 (fun k hk e => by omega)
                          obtain ⟨hx1, hx2, hx3⟩ := hsm x (mem_of hrs hx)
                          refine WL.eff rfl (OP.call (by decide) Tryd.func41 (by kernel_rfl) (by kernel_rfl) rfl (mright_any x w4 hx16 (hG2.kept hc34 (fun h => h)) hx1 hx2 hx3) ?_)
                          rintro e w5 ⟨rfl, hc5⟩
                          refine ⟨_, rfl, ?_⟩
                          have hc35 := hc34.trans hc5
                          have hC := hCi.trans hc35
                          cases hr : rightR x
                          · skip
                            refine WL.op (by decide) (R.not rfl) ?_
                            refine WL.next ?_
                            refine CW.condT rfl ?_
                            refine CW.rseq ?_  -- region 10
                            refine WL.op (by decide) (R.assign rfl) ?_  -- msg.go:104 t2 := (Op.assign c(Value.bool false))
                            refine WL.next ?_
                            refine CW.ret ?_
                            refine EW.inRet ?_
                            refine EW.thenRet ?_
                            refine EW.thenRet ?_
                            refine EW.inRet ?_
                            refine EW.inRet ?_
                            refine EW.thenRet ?_
                            refine EW.thenRet ?_
                            refine EW.inRet ?_
                            refine EW.thenRet ?_
                            refine EW.ret1 (.inl rfl) rfl rfl ⟨?_, hC⟩
                            exact congrArg (fun b => Ending.returned (.bool b)) (show _ = allM m from (hfalse (all_false hx hr)).symm)
                          · skip
                            refine WL.op (by decide) (R.not rfl) ?_
                            refine WL.next ?_
                            refine CW.condF rfl ?_
                            refine CW.skip ?_
                            refine EW.inNormal ?_
                            refine EW.next ?_
                            refine CW.region ?_  -- region 11
                            refine WL.op (by decide) (R.add rfl rfl (by omega)) ?_  -- msg.go:102 t71 := (Op.binOp BinOp.add 3 t64 c(Value.int IntKind.i64 1) 3)
                            refine WL.op (by decide) (R.move rfl) ?_  -- msg.go:102 t64 := (Op.move t71)
                            refine WL.nil ?_
                            exact EW.roundK [58, 59, 62, 63, 64] (k2 - 1) (by omega) ⟨hC, hG2.kept hc35 (fun h => h), hva2.kept hc35 (fun _ _ h => h), hvb2.kept hc35 (fun _ _ h => h), hsl2.kept hc35 (fun _ _ h => h), j + 1, _, by omega, by omega, rfl, all_take hx hr htk⟩
                        · skip
                          refine WL.next ?_
                          refine CW.seq ?_
                          refine CW.condF rfl ?_
                          refine CW.exit ?_
                          have hdone : rs.all rightR = true := by rwa [List.take_of_length_le (by omega)] at htk
                          refine EW.thenExit ?_
                          refine EW.thenExit ?_
                          refine EW.inHere ?_
                          refine EW.inNormal ?_
                          refine EW.next ?_
                          refine CW.region ?_  -- region 12
                          refine WL.op (by decide) (R.add rfl rfl (by omega)) ?_  -- msg.go:101 t72 := (Op.binOp BinOp.add 3 t59 c(Value.int IntKind.i64 1) 3)
                          refine WL.op (by decide) (R.move rfl) ?_  -- msg.go:101 t59 := (Op.move t72)
                          refine WL.nil ?_
                          exact EW.roundK [58, 59] (k - 1) (by omega) ⟨hCi, hG2, hva2, hvb2, i + 1, _, by omega, by omega, rfl, all_next hall hrs hdone⟩
                    · skip
                      refine WL.next ?_
                      refine CW.seq ?_
                      refine CW.condF rfl ?_
                      refine CW.exit ?_
                      refine EW.thenExit ?_
                      refine EW.thenExit ?_
                      refine EW.inHere ?_
                      refine EW.next ?_
                      refine CW.rseq ?_  -- region 13
                      refine WL.op (by decide) (R.assign rfl) ?_  -- msg.go:108 t2 := (Op.assign c(Value.bool true))
                      refine WL.next ?_
                      refine CW.ret ?_
                      refine EW.ret1 (.inl rfl) rfl rfl ⟨?_, hC⟩
                      have ha := hall 0 _ rfl (by omega)
                      have hb := hall 1 _ rfl (by omega)
                      exact congrArg (fun b => Ending.returned (.bool b)) (show _ = allM m from by unfold allM; simp [*]; omega)
end Go.Proofs.YthcpjcgjmdfpjaaDoor
