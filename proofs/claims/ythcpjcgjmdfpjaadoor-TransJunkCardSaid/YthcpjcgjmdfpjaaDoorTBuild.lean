/- The questions of the laws of chapter 13. -/
import Derived.Test.YthcpjcgjmdfpjaaDoorFit13
import Derived.Test.YthcpjcgjmdfpjaaDoorSame
namespace Go.Proofs.YthcpjcgjmdfpjaaDoor
open Go Go.RowKit
set_option maxRecDepth 100000
set_option maxHeartbeats 4000000

def addrN (b : UInt8) : List UInt8 := [0, 0, 0, 0, 0, 0, 0, 0, 0, 0, 0, 0, 0, 0, 0, b]
def buildT (n : Int) (group : Bool) : Tr := ⟨nameN n, 1 + n / 2 ^ (3 : Int).toNat % 2, n % 4, n / 2 ^ (2 : Int).toNat % 4, addrN (byteOf n), drawId n, drawPort n, false, group, 0⟩
theorem build27_15 (b : UInt8) (w : World) : (Instr.build 27 #[(15, u8v b)]).run Tryd.prog w = .ok (.agg ((addrN b).map u8v).toArray) w := by kernel_rfl
theorem build29_7 (s : List UInt8) (ty link gen : Int) (b : UInt8) (id port : Int) (g : Bool) (w : World) : (Instr.build 29 #[(0, .agg #[sv s, .int .i64 ty]), (1, .int .i64 link), (2, .int .i64 gen), (3, .agg ((addrN b).map u8v).toArray), (4, .int .i64 id), (5, .int .i64 port), (7, .bool g)]).run Tryd.prog w = .ok (Tr.val ⟨s, ty, link, gen, addrN b, id, port, false, g, 0⟩) w := by unfold sv; kernel_rfl
theorem build_any (n : Int) (group : Bool) (w : World) : Calls Tryd.prog 22 #[.int .i64 n, .bool group] w fun e w' => e = .returned (buildT n group).val ∧ Chg (fun _ => False) w w' := by
  refine calls_cw (args := [.int .i64 n, .bool group]) Tryd.func22 rfl rfl ?_
  show CW _ _ _ 31 [(0, .int .i64 n), (1, .bool group)] w
  refine CW.rseq ?_  -- region 0
  refine WL.eff rfl (OP.alloc1 (.agg (Tr.cells ⟨[], 0, 0, 0, zero16, 0, 0, false, false, 0⟩).toArray) (by decide) (by kernel_rfl) ?_)
  intro w1 hc1 hs1 hT
  refine WL.next ?_
  refine CW.rseq ?_  -- region 1
  refine WL.op (by decide) (R.move rfl) ?_  -- law.go:21 t8 := (Op.move t0)
  refine WL.eff rfl (OP.call (by decide) Tryd.func26 (by kernel_rfl) (by kernel_rfl) rfl (draw_any n w1) ?_)
  rintro ed _ ⟨rfl, rfl⟩
  refine ⟨_, rfl, ?_⟩
  refine WL.op (by decide) (R.move rfl) ?_  -- law.go:21 t7 := (Op.move t9)
  refine WL.op (by decide) (R.extract rfl rfl) ?_  -- law.go:21 t10 := (Op.extract t7 0)
  refine WL.op (by decide) (R.extract rfl rfl) ?_  -- law.go:21 t11 := (Op.extract t7 1)
  refine WL.op (by decide) (R.assign rfl) ?_  -- law.go:21 t5 := (Op.assign t10)
  refine WL.op (by decide) (R.assign rfl) ?_  -- law.go:21 t6 := (Op.assign t11)
  refine WL.next ?_
  refine CW.rseq ?_  -- region 2
  refine WL.op (by decide) (R.move rfl) ?_  -- law.go:22 t12 := (Op.move t0)
  refine WL.eff rfl (OP.call (by decide) Tryd.func33 (by kernel_rfl) (by kernel_rfl) rfl (name_any n w1) ?_)
  rintro ed w2 ⟨rfl, hc2⟩
  refine ⟨_, rfl, ?_⟩
  have hT := hc2.at hT (fun e => e)
  have hC := hc1.trans hc2
  refine WL.op (by decide) (R.move rfl) ?_  -- law.go:22 t14 := (Op.move t0)
  refine WL.op (by decide) (R.shr rfl rfl (by omega)) ?_  -- law.go:22 t15 := (Op.binOp BinOp.shr 3 t14 c(Value.int IntKind.u64 3) 42)
  refine WL.op (by decide) (R.mask 1 rfl rfl (by decide) rfl rfl) ?_  -- law.go:22 t16 := (Op.binOp BinOp.and 3 t15 c(Value.int IntKind.i64 1) 3)
  refine WL.op (by decide) (R.add rfl rfl (by omega)) ?_  -- law.go:22 t17 := (Op.binOp BinOp.add 3 c(Value.int IntKind.i64 1) t16 3)
  refine WL.op (by decide) (R.build (parts := [(0, _), (1, _)]) (vals := [(0, _), (1, _)]) rfl (fun w => build25_2 (nameN n) _ w)) ?_  -- law.go:22 t18 := (Op.build 25 [(0, t13), (1, t17)])
  refine WL.op (by decide) (R.move rfl) ?_  -- law.go:22 t19 := (Op.move t0)
  refine WL.op (by decide) (R.mask 2 rfl rfl (by decide) rfl rfl) ?_  -- law.go:22 t20 := (Op.binOp BinOp.and 3 t19 c(Value.int IntKind.i64 3) 3)
  refine WL.op (by decide) (R.move rfl) ?_  -- law.go:22 t21 := (Op.move t0)
  refine WL.op (by decide) (R.shr rfl rfl (by omega)) ?_  -- law.go:22 t22 := (Op.binOp BinOp.shr 3 t21 c(Value.int IntKind.u64 2) 42)
  refine WL.op (by decide) (R.mask 2 rfl rfl (by decide) rfl rfl) ?_  -- law.go:22 t23 := (Op.binOp BinOp.and 3 t22 c(Value.int IntKind.i64 3) 3)
  refine WL.op (by decide) (R.move rfl) ?_  -- law.go:22 t24 := (Op.move t0)
  refine WL.op (by decide) (R.conv35 rfl) ?_  -- law.go:22 t25 := (Op.convert 3 5 t24)
  refine WL.op (by decide) (R.build (parts := [(15, _)]) (vals := [(15, _)]) rfl (fun w => build27_15 (byteOf n) w)) ?_  -- law.go:22 t26 := (Op.build 27 [(15, t25)])
  refine WL.op (by decide) (R.move rfl) ?_  -- law.go:22 t27 := (Op.move t5)
  refine WL.op (by decide) (R.move rfl) ?_  -- law.go:22 t28 := (Op.move t6)
  refine WL.op (by decide) (R.move rfl) ?_  -- law.go:22 t29 := (Op.move t1)
  refine WL.op (by decide) (R.build (parts := [(0, _), (1, _), (2, _), (3, _), (4, _), (5, _), (7, _)]) (vals := [(0, _), (1, _), (2, _), (3, _), (4, _), (5, _), (7, _)]) rfl (fun w => build29_7 (nameN n) _ _ _ (byteOf n) _ _ group w)) ?_  -- law.go:22 t30 := (Op.build 29 [(0, t18), (1, t20), (2, t23), (3, t26), (4, t27), (5, t28), (7, t29)])
  refine WL.eff rfl (OP.storeAgg inf29.choose_spec.1 (by rw [inf29.choose_spec.2]; rfl) rfl rfl (Tr.allOne _) hT rfl ?_)
  intro w3 hc3 hs3 hT
  have hC := hC.then hc3 (fun k hk e => by omega)
  refine WL.next ?_
  refine CW.ret ?_
  exact EW.retC (.inl rfl) rfl rfl (cs := Tr.cells (buildT n group)) Tryd.underlying29 rfl sz29 (fun j u hj => cell_at hT (by rw [List.getElem?_toArray]; exact hj)) ⟨rfl, hC⟩
end Go.Proofs.YthcpjcgjmdfpjaaDoor
