/- trans.Draw and the names of the laws. -/
import Derived.Test.YthcpjcgjmdfpjaaDoorOps6
namespace Go.Proofs.YthcpjcgjmdfpjaaDoor
open Go Go.RowKit
set_option maxRecDepth 100000
set_option maxHeartbeats 4000000

theorem sh16 (n : Int) : 0 ≤ n % 18446744073709551616 / 2 ^ (16 : Int).toNat ∧ n % 18446744073709551616 / 2 ^ (16 : Int).toNat < 9223372036854775808 := by
  have h0 : (2 : Int) ^ (16 : Int).toNat = 65536 := rfl
  rw [h0]; omega
theorem sh16m (n : Int) : 0 ≤ n % 18446744073709551616 / 2 ^ (16 : Int).toNat % 64512 ∧ n % 18446744073709551616 / 2 ^ (16 : Int).toNat % 64512 < 64512 := by
  have := sh16 n
  omega
/-- The number and the port of a draw. -/
def drawId (n : Int) : Int := n % 65536
def drawPort (n : Int) : Int := 1024 + n % 18446744073709551616 / 2 ^ (16 : Int).toNat % 64512
theorem draw_any (n : Int) (w : World) : Calls Tryd.prog 26 #[.int .i64 n] w fun e w' => e = .returned (.tuple #[.int .i64 (drawId n), .int .i64 (drawPort n)]) ∧ w = w' := by
  refine calls_cw (args := [.int .i64 n]) Tryd.func26 rfl rfl ?_
  show CW _ _ _ 12 [(0, .int .i64 n)] w
  refine CW.rseq ?_  -- region 0
  refine WL.op (by decide) (R.assign rfl) ?_  -- trans.go:23 t2 := (Op.assign c(Value.int IntKind.i64 0))
  refine WL.op (by decide) (R.assign rfl) ?_  -- trans.go:23 t3 := (Op.assign c(Value.int IntKind.i64 0))
  refine WL.next ?_
  refine CW.rseq ?_  -- region 1
  refine WL.op (by decide) (R.move rfl) ?_  -- trans.go:24 t4 := (Op.move t0)
  refine WL.op (by decide) (R.mask 16 rfl rfl (by decide) rfl rfl) ?_  -- trans.go:24 t5 := (Op.binOp BinOp.and 3 t4 c(Value.int IntKind.i64 65535) 3)
  refine WL.op (by decide) (R.move rfl) ?_  -- trans.go:24 t6 := (Op.move t0)
  refine WL.op (by decide) (R.conv342 rfl) ?_  -- trans.go:24 t7 := (Op.convert 3 42 t6)
  refine WL.op (by decide) (R.shrU rfl rfl (by omega)) ?_  -- trans.go:24 t8 := (Op.binOp BinOp.shr 42 t7 c(Value.int IntKind.u64 16) 42)
  refine WL.op (by decide) (R.conv423 rfl (sh16 n)) ?_  -- trans.go:24 t9 := (Op.convert 42 3 t8)
  refine WL.op (by decide) (R.remN rfl rfl (by decide) (sh16 n).1) ?_  -- trans.go:24 t10 := (Op.binOp BinOp.rem 3 t9 c(Value.int IntKind.i64 64512) 3)
  refine WL.op (by decide) (R.add rfl rfl (by have := sh16m n; omega)) ?_  -- trans.go:24 t11 := (Op.binOp BinOp.add 3 c(Value.int IntKind.i64 1024) t10 3)
  refine WL.op (by decide) (R.assign rfl) ?_  -- trans.go:24 t2 := (Op.assign t5)
  refine WL.op (by decide) (R.assign rfl) ?_  -- trans.go:24 t3 := (Op.assign t11)
  refine WL.next ?_
  refine CW.ret ?_
  exact EW.ret2 (.inl rfl) rfl rfl rfl ⟨rfl, rfl⟩
/-- The few names of the laws. -/
def namesA : List (List UInt8) := [[97], [98, 46, 97], [119, 119, 119, 46, 98, 46, 97], [120, 110, 45, 45, 98, 99, 104, 101, 114, 45, 107, 118, 97, 46, 100, 101], [120, 95, 121, 46, 99, 111, 114, 112], [48], [99, 111, 114, 112], [99, 46, 98, 46, 97]]
def nameN (n : Int) : List UInt8 := (namesA[(n % 8).toNat]?).getD []
theorem nameN_at (n : Int) : namesA[(n % 8).toNat]? = some (nameN n) := by
  have h : (n % 8).toNat < namesA.length := by show _ < 8; omega
  unfold nameN
  rw [List.getElem?_eq_getElem h]; rfl
theorem nameN_mem (n : Int) : nameN n ∈ namesA := List.mem_of_getElem? (nameN_at n)
theorem buildSlice_names (w : World) : (Instr.buildSlice 80 8 #[(0, .string ⟨#[97]⟩), (1, .string ⟨#[98, 46, 97]⟩), (2, .string ⟨#[119, 119, 119, 46, 98, 46, 97]⟩), (3, .string ⟨#[120, 110, 45, 45, 98, 99, 104, 101, 114, 45, 107, 118, 97, 46, 100, 101]⟩), (4, .string ⟨#[120, 95, 121, 46, 99, 111, 114, 112]⟩), (5, .string ⟨#[48]⟩), (6, .string ⟨#[99, 111, 114, 112]⟩), (7, .string ⟨#[99, 46, 98, 46, 97]⟩)]).run Tryd.prog w = .ok (.slice (some ⟨w.heap.size, 0, none⟩) 8 8) (w.alloc (.cells (namesA.map sv).toArray 9)) := by kernel_rfl
theorem name_any (n : Int) (w : World) : Calls Tryd.prog 33 #[.int .i64 n] w fun e w' => e = .returned (sv (nameN n)) ∧ Chg (fun _ => False) w w' := by
  refine calls_cw (args := [.int .i64 n]) Tryd.func33 rfl rfl ?_
  show CW _ _ _ 8 [(0, .int .i64 n)] w
  refine CW.rseq ?_  -- region 0
  refine WL.op (by decide) (R.assign rfl) ?_  -- law.go:27 t2 := (Op.assign c(Value.string (ByteArray.mk [])))
  refine WL.next ?_
  refine CW.rseq ?_  -- region 1
  refine WL.eff rfl (OP.buildSlice (parts := [(0, _), (1, _), (2, _), (3, _), (4, _), (5, _), (6, _), (7, _)]) (vals := [(0, _), (1, _), (2, _), (3, _), (4, _), (5, _), (6, _), (7, _)]) (cells := (namesA.map sv).toArray) (ty := 9) (by decide) rfl buildSlice_names ?_)
  intro w1 hc1 hs1 hb1
  refine WL.op (by decide) (R.move rfl) ?_  -- law.go:28 t4 := (Op.move t0)
  refine WL.op (by decide) (R.mask 3 rfl rfl (by decide) rfl rfl) ?_  -- law.go:28 t5 := (Op.binOp BinOp.and 3 t4 c(Value.int IntKind.i64 7) 3)
  refine WL.op (by decide) (R.indexAddr1 (i := (n % 8).toNat) Tryd.underlying80 sz9 rfl rfl (by omega) (by omega)) ?_  -- law.go:28 t6 := (Op.indexAddr 80 t3 t5)
  refine WL.op (by decide) (R.load Tryd.underlying9 rfl rfl (by rw [Nat.zero_add, Nat.mul_one]; exact cell_at hb1 (by rw [List.getElem?_toArray, List.getElem?_map, nameN_at n]; rfl))) ?_  -- law.go:28 t7 := (Op.load 9 t6)
  refine WL.op (by decide) (R.assign rfl) ?_  -- law.go:28 t2 := (Op.assign t7)
  refine WL.next ?_
  refine CW.ret ?_
  exact EW.ret1 (.inl rfl) rfl rfl ⟨rfl, hc1⟩
end Go.Proofs.YthcpjcgjmdfpjaaDoor
