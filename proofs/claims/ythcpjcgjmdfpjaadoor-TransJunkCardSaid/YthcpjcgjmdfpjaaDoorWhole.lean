/- (*reader).whole. -/
import Derived.Test.YthcpjcgjmdfpjaaDoorReader
namespace Go.Proofs.YthcpjcgjmdfpjaaDoor
open Go Go.RowKit
set_option maxRecDepth 100000

theorem whole_any (rb : Nat) (A : Option Addr) (m c a : Nat) (B : Option Addr) (cap : Nat) (ls : List (List UInt8)) (w : World) (hR : RSt w rb A m c a false)
    (hA : ∀ (j : Nat) (s : List UInt8), ls[j]? = some s → ∃ g o, B = some ⟨g, o, none⟩ ∧ w.cell? ⟨g, o + j, none⟩ = some (sv s)) (hl : (joinL ls).length ≤ 1099511627776) (hn : ls.length ≤ 1099511627776) :
    Calls Tryd.prog 53 #[.pointer (some ⟨rb, 0, none⟩), .slice B ls.length cap] w fun e w' => e = .returned (sv (if namesL (joinL ls) then joinL ls else [])) ∧ RSt w' rb A m c a (!namesL (joinL ls)) ∧ Chg (fun k => k = rb) w w' := by
  refine calls_cw (args := [.pointer (some ⟨rb, 0, none⟩), .slice B ls.length cap]) Tryd.func53 rfl rfl ?_
  show CW _ _ _ 15 [(0, .pointer (some ⟨rb, 0, none⟩)), (1, .slice B ls.length cap)] w
  refine CW.rseq ?_  -- region 0
  refine WL.op (by decide) (R.assign rfl) ?_  -- msg.go:199 t4 := (Op.assign c(Value.string (ByteArray.mk [])))
  refine WL.next ?_
  refine CW.rseq ?_  -- region 1
  refine WL.op (by decide) (R.move rfl) ?_  -- msg.go:200 t6 := (Op.move t1)
  refine WL.eff rfl (OP.call (by decide) Tryd.func52 (by kernel_rfl) (by kernel_rfl) rfl (join_any B cap ls w hA hl hn) ?_)
  rintro e _ ⟨rfl, rfl⟩
  refine ⟨_, rfl, ?_⟩
  refine WL.op (by decide) (R.assign rfl) ?_  -- msg.go:200 t5 := (Op.assign t7)
  refine WL.next ?_
  refine CW.seq ?_
  refine CW.rseq ?_  -- region 2
  refine WL.op (by decide) (R.move rfl) ?_  -- msg.go:201 t8 := (Op.move t5)
  refine WL.eff rfl (OP.call (by decide) Tryd.func50 (by kernel_rfl) (by kernel_rfl) rfl (names_any (joinL ls) w hl) ?_)
  rintro e w1 ⟨rfl, hc1⟩
  refine ⟨_, rfl, ?_⟩
  have hR1 := hc1.at hR (fun h => h)
  cases hb : namesL (joinL ls)
  · skip
    refine WL.op (by decide) (R.not rfl) ?_
    refine WL.next ?_
    refine CW.condT rfl ?_
    refine CW.rseq ?_  -- region 3
    refine WL.op (by decide) (R.move rfl) ?_  -- msg.go:202 t11 := (Op.move t0)
    refine WL.op (by decide) (R.nilCheck rfl) ?_  -- msg.go:202 t12 := (Op.nilCheck t11)
    refine WL.op (by decide) (FA100_2 rfl) ?_  -- msg.go:202 t13 := (Op.fieldAddr 100 t12 2)
    refine WL.eff rfl (OP.store1 sz4 rfl rfl rfl rfl hR1 (Nat.le_of_ble_eq_true rfl) rfl ?_)
    intro w2 hc2 _ hb2
    refine WL.next ?_
    refine CW.rseq ?_  -- region 4
    refine WL.op (by decide) (R.assign rfl) ?_  -- msg.go:203 t4 := (Op.assign c(Value.string (ByteArray.mk [])))
    refine WL.next ?_
    refine CW.ret ?_
    refine EW.thenRet ?_
    exact EW.ret1 (.inl rfl) rfl rfl ⟨rfl, hb2, (hc1.mono (fun _ _ h => h.elim)).trans hc2⟩
  · skip
    refine WL.op (by decide) (R.not rfl) ?_
    refine WL.next ?_
    refine CW.condF rfl ?_
    refine CW.skip ?_
    refine EW.next ?_
    refine CW.rseq ?_  -- region 5
    refine WL.op (by decide) (R.move rfl) ?_  -- msg.go:205 t14 := (Op.move t5)
    refine WL.op (by decide) (R.assign rfl) ?_  -- msg.go:205 t4 := (Op.assign t14)
    refine WL.next ?_
    refine CW.ret ?_
    exact EW.ret1 (.inl rfl) rfl rfl ⟨rfl, hR1, hc1.mono (fun _ _ h => h.elim)⟩
end Go.Proofs.YthcpjcgjmdfpjaaDoor
