/- label.Join. -/
import Derived.Test.YthcpjcgjmdfpjaaDoorStrs
import Derived.Test.YthcpjcgjmdfpjaaDoorSpec
import Derived.Lib.Hide
namespace Go.Proofs.YthcpjcgjmdfpjaaDoor
open Go Go.RowKit
set_option maxRecDepth 100000

theorem join_any (A : Option Addr) (cap : Nat) (ls : List (List UInt8)) (w : World) (hA : ∀ (j : Nat) (s : List UInt8), ls[j]? = some s → ∃ g o, A = some ⟨g, o, none⟩ ∧ w.cell? ⟨g, o + j, none⟩ = some (sv s)) (hl : (joinL ls).length ≤ 1099511627776) (hn : ls.length ≤ 1099511627776) :
    Calls Tryd.prog 52 #[.slice A ls.length cap] w fun e w' => e = .returned (sv (joinL ls)) ∧ w = w' := by
  refine calls_cw (args := [.slice A ls.length cap]) Tryd.func52 rfl rfl ?_
  show CW _ _ _ 22 [(0, .slice A ls.length cap)] w
  refine CW.rseq ?_  -- region 0
  refine WL.op (by decide) (R.assign rfl) ?_  -- label.go:46 t2 := (Op.assign c(Value.string (ByteArray.mk [])))
  refine WL.next ?_
  refine CW.rseq ?_  -- region 1
  refine WL.op (by decide) (R.assign rfl) ?_  -- label.go:47 t3 := (Op.assign c(Value.string (ByteArray.mk [])))
  refine WL.next ?_
  refine CW.seq ?_
  refine CW.rseq ?_  -- region 2
  refine WL.op (by decide) (R.move rfl) ?_  -- label.go:48 t6 := (Op.move t0)
  refine WL.op (by decide) (R.lenSlice rfl Tryd.underlying80 rfl) ?_  -- label.go:48 t7 := (Op.call (Call.mk (Callee.builtin Builtin.len) [t6] [80]))
  refine WL.op (by decide) (R.move rfl) ?_  -- label.go:48 t8 := (Op.move c(Value.int IntKind.i64 0))
  refine WL.next ?_
  refine CW.block ?_
  refine CW.loopK [3, 6, 7, 8] (fun m l wr => wr = w ∧ ∃ (j : Nat) (i : Int) (acc : List UInt8), j + m = ls.length ∧ i = (j : Int) ∧ acc = joinL (ls.take j) ∧ l = [(3, sv acc), (6, .slice A ls.length cap), (7, .int .i64 ls.length), (8, .int .i64 i)]) (ls.length) ?_ ?_
  · exact ⟨rfl, 0, _, [], by omega, rfl, by simp [joinL], rfl⟩
  · rintro m l wr ⟨rfl, j, i, acc, hm, rfl, rfl, rfl⟩
    refine CW.rseq ?_  -- region 3
    refine WL.lssS (by decide) rfl rfl (fun h1 => ?_) (fun h1 => ?_)  -- label.go:48 t9 := (Op.binOp BinOp.lss 3 t8 t7 3)
    · skip
      refine WL.next ?_
      refine CW.seq ?_
      refine CW.condT rfl ?_
      refine CW.skip ?_
      refine EW.next ?_
      refine CW.seq ?_
      refine CW.block ?_
      refine CW.rseq ?_  -- region 4
      have hlt : j < ls.length := by omega
      obtain ⟨x, hx⟩ : ∃ x, ls[j]? = some x := ⟨ls[j], List.getElem?_eq_getElem hlt⟩
      obtain ⟨g, o, rfl, hcell⟩ := hA j x hx
      have ht := joinL_take hx
      have hle := joinL_take_le ls (j + 1)
      have HT := Lib.hid ht
      rw [ht] at hle
      clear ht
      refine WL.op (by decide) (R.move rfl) ?_
      refine WL.op (by decide) (R.indexAddr1 Tryd.underlying80 sz9 rfl rfl rfl (by omega)) ?_  -- label.go:48 t11 := (Op.indexAddr 80 t6 t8)
      refine WL.op (by decide) (R.load Tryd.underlying9 rfl rfl (by rw [Nat.mul_one]; exact hcell)) ?_  -- label.go:48 t12 := (Op.load 9 t11)
      refine WL.op (by decide) (R.assign rfl) ?_  -- label.go:48 t4 := (Op.assign t10)
      refine WL.op (by decide) (R.assign rfl) ?_  -- label.go:48 t5 := (Op.assign t12)
      refine WL.next ?_
      refine CW.seq ?_
      refine CW.rseq ?_  -- region 5
      refine WL.op (by decide) (R.move rfl) ?_  -- label.go:49 t13 := (Op.move t4)
      refine WL.gtrS (by decide) rfl rfl (fun h2 => ?_) (fun h2 => ?_)  -- label.go:49 t14 := (Op.binOp BinOp.gtr 3 t13 c(Value.int IntKind.i64 0) 3)
      · skip
        refine WL.next ?_
        refine CW.condT rfl ?_
        refine CW.region ?_  -- region 6
        refine WL.op (by decide) (R.move rfl) ?_  -- label.go:50 t15 := (Op.move t3)
        refine WL.op (by decide) (R.addStr (b := [46]) rfl rfl (by rw [if_neg (by omega)] at hle; simp at hle ⊢; omega)) ?_  -- label.go:50 t16 := (Op.binOp BinOp.add 9 t15 c(Value.string (ByteArray.mk [46])) 9)
        refine WL.op (by decide) (R.assign rfl) ?_  -- label.go:50 t3 := (Op.assign t16)
        refine WL.nil ?_
        refine EW.next ?_
        refine CW.region ?_  -- region 7
        refine WL.op (by decide) (R.move rfl) ?_  -- label.go:52 t17 := (Op.move t3)
        refine WL.op (by decide) (R.move rfl) ?_  -- label.go:52 t18 := (Op.move t5)
        refine WL.op (by decide) (R.addStr rfl rfl (by rw [if_neg (by omega)] at hle; simp at hle ⊢; omega)) ?_  -- label.go:52 t19 := (Op.binOp BinOp.add 9 t17 t18 9)
        refine WL.op (by decide) (R.assign rfl) ?_  -- label.go:52 t3 := (Op.assign t19)
        refine WL.nil ?_
        refine EW.inNormal ?_
        refine EW.next ?_
        refine CW.region ?_  -- region 8
        refine WL.op (by decide) (R.add rfl rfl (by omega)) ?_  -- label.go:48 t20 := (Op.binOp BinOp.add 3 t8 c(Value.int IntKind.i64 1) 3)
        refine WL.op (by decide) (R.move rfl) ?_  -- label.go:48 t8 := (Op.move t20)
        refine WL.nil ?_
        refine EW.roundK [3, 6, 7, 8] (m - 1) (by omega) ⟨rfl, j + 1, _, _, by omega, by omega, ?_, rfl⟩
        rw [HT.out, if_neg (by omega)]; simp
      · skip
        refine WL.next ?_
        refine CW.condF rfl ?_
        refine CW.skip ?_
        refine EW.next ?_
        refine CW.region ?_  -- region 7
        refine WL.op (by decide) (R.move rfl) ?_  -- label.go:52 t17 := (Op.move t3)
        refine WL.op (by decide) (R.move rfl) ?_  -- label.go:52 t18 := (Op.move t5)
        refine WL.op (by decide) (R.addStr rfl rfl (by rw [if_pos (by omega)] at hle; (obtain rfl : j = 0 := by omega); simp [joinL] at hle ⊢; omega)) ?_  -- label.go:52 t19 := (Op.binOp BinOp.add 9 t17 t18 9)
        refine WL.op (by decide) (R.assign rfl) ?_  -- label.go:52 t3 := (Op.assign t19)
        refine WL.nil ?_
        refine EW.inNormal ?_
        refine EW.next ?_
        refine CW.region ?_  -- region 8
        refine WL.op (by decide) (R.add rfl rfl (by omega)) ?_  -- label.go:48 t20 := (Op.binOp BinOp.add 3 t8 c(Value.int IntKind.i64 1) 3)
        refine WL.op (by decide) (R.move rfl) ?_  -- label.go:48 t8 := (Op.move t20)
        refine WL.nil ?_
        refine EW.roundK [3, 6, 7, 8] (m - 1) (by omega) ⟨rfl, j + 1, _, _, by omega, by omega, ?_, rfl⟩
        obtain rfl : j = 0 := by omega
        rw [HT.out, if_pos rfl]; simp [joinL]
    · skip
      refine WL.next ?_
      refine CW.seq ?_
      refine CW.condF rfl ?_
      refine CW.exit ?_
      refine EW.thenExit ?_
      refine EW.thenExit ?_
      refine EW.inHere ?_
      refine EW.next ?_
      refine CW.rseq ?_  -- region 9
      refine WL.op (by decide) (R.move rfl) ?_  -- label.go:54 t21 := (Op.move t3)
      refine WL.op (by decide) (R.assign rfl) ?_  -- label.go:54 t2 := (Op.assign t21)
      refine WL.next ?_
      refine CW.ret ?_
      refine EW.ret1 (.inl rfl) rfl rfl ⟨?_, rfl⟩
      rw [List.take_of_length_le (by omega)]
end Go.Proofs.YthcpjcgjmdfpjaaDoor
