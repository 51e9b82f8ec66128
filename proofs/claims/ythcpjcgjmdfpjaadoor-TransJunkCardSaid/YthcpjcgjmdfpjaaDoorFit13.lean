/- The example of the laws of chapter 13; TransDraws. -/
import Derived.Test.YthcpjcgjmdfpjaaDoorMatch
namespace Go.Proofs.YthcpjcgjmdfpjaaDoor
open Go Go.RowKit
set_option maxRecDepth 100000
set_option maxHeartbeats 4000000

theorem build29_3 (s : List UInt8) (ty id port : Int) (w : World) : (Instr.build 29 #[(0, .agg #[sv s, .int .i64 ty]), (4, .int .i64 id), (5, .int .i64 port)]).run Tryd.prog w = .ok (Tr.val ⟨s, ty, 0, 0, zero16, id, port, false, false, 0⟩) w := by unfold sv; kernel_rfl
theorem build33_015 (id : Int) (r : Bool) (s : List UInt8) (t : Int) (w : World) : (Instr.build 33 #[(0, .int .i64 id), (1, .bool r), (5, .agg #[sv s, .int .i64 t])]).run Tryd.prog w = .ok (.agg (Msg.cells ⟨id, r, false, false, 0, s, t, [], []⟩ (.slice none 0 0) (.slice none 0 0)).toArray) w := by unfold sv; kernel_rfl
theorem inf29 : ∃ i, Tryd.prog.info? 29 = some i ∧ i.size = 25 := inf_of sz29
theorem enc5 : (enc ⟨5, true, false, false, 0, [97], 1, [], []⟩) = [0, 5, 128, 0, 0, 1, 0, 0, 0, 0, 0, 0, 1, 97, 0, 0, 1, 0, 1] := by kernel_rfl
theorem rt5 : decode (enc ⟨5, true, false, false, 0, [97], 1, [], []⟩) = some ⟨5, true, false, false, 0, [97], 1, [], []⟩ := by kernel_rfl
theorem Buf.src {w : World} {base g cap : Nat} {bs : List UInt8} (h : Buf w base (.slice (some ⟨g, 0, none⟩) bs.length cap) bs) (hle : bs.length ≤ cap) (hc : ∀ (j : Nat) (b : UInt8), bs[j]? = some b → w.cell? ⟨g, j, none⟩ = some (u8v b)) : Src w (some ⟨g, 0, none⟩) bs.length cap bs :=
  ⟨rfl, hle, fun _ => ⟨g, 0, rfl, fun j b hj => by rw [Nat.zero_add]; exact hc j b hj⟩⟩
theorem match_yes {t : Tr} {link gen : Int} {frm : List UInt8} {port : Int} {base : Nat} {m : Msg} {e : Ending} {w : World} (h1 : passT t link gen frm port = true) (h2 : ansT t m = true) (h : MatchRes t link gen frm port base (some m) e w) : ∃ v, e = .returned (.tuple #[v, .bool true]) ∧ MVF base w v m := by
  unfold MatchRes at h
  simp only at h
  rw [if_pos h1, h2] at h
  exact h
theorem draw5 (w : World) : Calls Tryd.prog 26 #[.int .i64 5] w fun e w' => e = .returned (.tuple #[.int .i64 5, .int .i64 1024]) ∧ w = w' := by
  have := draw_any 5 w
  rwa [show drawId 5 = 5 by kernel_rfl, show drawPort 5 = 1024 by kernel_rfl] at this
theorem fit13_any (w : World) (hG : Glob w) : Calls Tryd.prog 21 #[] w fun e w' => e = .returned (.bool true) ∧ Chg (fun _ => False) w w' := by
  have h0 : 0 < w.heap.size := World.block_lt_of_cell? w ⟨0, 0, none⟩ (hG 0 (u8v 0) rfl)
  refine calls_cw (args := []) Tryd.func21 rfl rfl ?_
  show CW _ _ _ 38 [] w
  refine CW.rseq ?_  -- region 0
  refine WL.op (by decide) (R.assign rfl) ?_  -- law.go:12 t0 := (Op.assign c(Value.bool false))
  refine WL.next ?_
  refine CW.rseq ?_  -- region 1
  refine WL.eff rfl (OP.call (by decide) Tryd.func26 (by kernel_rfl) (by kernel_rfl) rfl (draw5 w) ?_)
  rintro ed _ ⟨rfl, rfl⟩
  refine ⟨_, rfl, ?_⟩
  refine WL.op (by decide) (R.move rfl) ?_  -- law.go:13 t6 := (Op.move t7)
  refine WL.op (by decide) (R.extract rfl rfl) ?_  -- law.go:13 t8 := (Op.extract t6 0)
  refine WL.op (by decide) (R.extract rfl rfl) ?_  -- law.go:13 t9 := (Op.extract t6 1)
  refine WL.op (by decide) (R.assign rfl) ?_  -- law.go:13 t1 := (Op.assign t8)
  refine WL.op (by decide) (R.assign rfl) ?_  -- law.go:13 t2 := (Op.assign t9)
  refine WL.next ?_
  refine CW.rseq ?_  -- region 2
  refine WL.op (by decide) (R.build (parts := [(0, _), (1, _)]) (vals := [(0, _), (1, _)]) rfl (fun w => build25_2 [97] 1 w)) ?_  -- law.go:14 t10 := (Op.build 25 [(0, c(Value.string (ByteArray.mk [97]))), (1, c(Value.int IntKind.i64 1))])
  refine WL.op (by decide) (R.move rfl) ?_  -- law.go:14 t11 := (Op.move t1)
  refine WL.op (by decide) (R.move rfl) ?_  -- law.go:14 t12 := (Op.move t2)
  refine WL.op (by decide) (R.build (parts := [(0, _), (4, _), (5, _)]) (vals := [(0, _), (4, _), (5, _)]) rfl (fun w => build29_3 [97] 1 5 1024 w)) ?_  -- law.go:14 t13 := (Op.build 29 [(0, t10), (4, t11), (5, t12)])
  refine WL.eff rfl (OP.alloc1 (.agg (Tr.cells ⟨[], 0, 0, 0, zero16, 0, 0, false, false, 0⟩).toArray) (by decide) (by kernel_rfl) ?_)
  intro w1 hc1 hs1 hT
  have hG := hG.kept hc1 (fun e => e)
  refine WL.eff rfl (OP.storeAgg inf29.choose_spec.1 (by rw [inf29.choose_spec.2]; rfl) rfl rfl (Tr.allOne _) hT rfl ?_)
  intro w2 hc2 hs2 hT
  have hG := hG.kept hc2 (by omega)
  have hC : Chg (fun _ => False) w w2 := hc1.then hc2 (fun k hk e => by omega)
  refine WL.next ?_
  refine CW.seq ?_
  refine CW.draw (fun w0 => w0.heap[w.heap.size]? = some (.cells (Tr.cells ⟨[97], 1, 0, 0, zero16, 5, 1024, false, false, 0⟩).toArray 29 (0, 0))) (by kernel_rfl) ?_
  have hG := hG.kept (Chg.drew (fun _ => False) _) (fun e => e)
  have hC := hC.trans (Chg.drew _ _)
  have hgt : w2.heap.size ≤ (World.drew w2).heap.size := Nat.le_refl _
  refine AH.take 0 rfl (by kernel_rfl) (by kernel_rfl) (by kernel_rfl) (fun _ _ _ _ h => h) hT (by decide) (fun w hS => R.loadAgg1 (cs := Tr.cells ⟨[97], 1, 0, 0, zero16, 5, 1024, false, false, 0⟩) Tryd.underlying29 rfl sz29 rfl (fun j u hj => cell_at hS (by rw [Nat.zero_add, List.getElem?_toArray]; exact hj))) ?_  -- law.go:15 t15 := (Op.load 29 t3)
  refine AH.take 1 rfl (by kernel_rfl) (by kernel_rfl) (by kernel_rfl) (fun _ _ _ _ h => h) hT (by decide) (fun w hS => R.build (parts := []) (vals := []) rfl build27_run) ?_  -- law.go:15 t16 := (Op.build 27 [])
  refine AH.take 2 rfl (by kernel_rfl) (by kernel_rfl) (by kernel_rfl) (fun _ _ _ _ h => h) hT (by decide) (fun w hS => R.move rfl) ?_  -- law.go:15 t17 := (Op.move t2)
  refine AH.take 3 rfl (by kernel_rfl) (by kernel_rfl) (by kernel_rfl) (fun _ _ _ _ h => h) hT (by decide) (fun w hS => FA29_0 rfl) ?_  -- law.go:15 t18 := (Op.fieldAddr 29 t3 0)
  refine AH.take 4 rfl (by kernel_rfl) (by kernel_rfl) (by kernel_rfl) (fun _ _ _ _ h => h) hT (by decide) (fun w hS => R.loadAgg1 (cs := [sv [97], .int .i64 1]) Tryd.underlying25 rfl sz25 rfl (fun j u hj => cell_at hS (by match j, hj with | 0, hj => exact hj | 1, hj => exact hj))) ?_  -- law.go:15 t19 := (Op.load 25 t18)
  refine AH.take 5 rfl (by kernel_rfl) (by kernel_rfl) (by kernel_rfl) (fun _ _ _ _ h => h) hT (by decide) (fun w hS => R.build (parts := [(0, _), (1, _), (5, _)]) (vals := [(0, _), (1, _), (5, _)]) rfl (fun w => build33_015 5 true [97] 1 w)) ?_  -- law.go:15 t20 := (Op.build 33 [(0, c(Value.int IntKind.i64 5)), (1, c(Value.bool true)), (5, t19)])
  refine AH.either 6 11 (by kernel_rfl) rfl rfl rfl rfl ?_ ?_
  · skip
    refine (OP.call (by decide) Tryd.func24 (by kernel_rfl) (by kernel_rfl) rfl (encode_any ⟨5, true, false, false, 0, [97], 1, [], []⟩ _ _ ⟨_, _, rfl, RSl.nil _, RSl.nil _⟩ ⟨by decide, by decide, by simp, by decide⟩) ?_)
    rintro ed w3 ⟨v3, rfl, hB, hc3⟩
    have hT := hc3.at hT (fun e => e)
    refine ⟨_, rfl, hT, ?_⟩
    have hG := hG.kept hc3 (fun e => e)
    have hC := hC.trans hc3
    have hgt := Nat.le_trans hgt hc3.size
    try (have hB5 := hc3.at hB5 (fun e => e))
    obtain ⟨bs0, hbs0⟩ : ∃ b, b = enc ⟨5, true, false, false, 0, [97], 1, [], []⟩ := ⟨_, rfl⟩
    rw [← hbs0] at hB
    have hrt := rt5
    have hln := congrArg List.length enc5
    rw [← hbs0] at hrt hln
    clear hbs0
    obtain ⟨g, cap, rfl, _, hgl, hle, hcell⟩ := hB.open (by intro h; rw [h] at hln; cases hln)
    have hS0 := hB.src hle hcell
    refine AH.either 7 11 (by kernel_rfl) rfl rfl rfl rfl ?_ ?_
    · skip
      refine (OP.call (by decide) Tryd.func23 (by kernel_rfl) (by kernel_rfl) rfl (match_any ⟨[97], 1, 0, 0, zero16, 5, 1024, false, false, 0⟩ 0 0 zero16 1024 _ _ _ bs0 _ rfl rfl hS0 (fun g o h => by injection h with h; injection h with h; omega) (by rw [hln]; decide) hG) ?_)
      rintro ed w4 ⟨hc4, hres⟩
      rw [hrt] at hres
      have hT := hc4.at hT (fun e => e)
      obtain ⟨v4, rfl, va, vb, rfl, hva, hvb, _⟩ := match_yes (by rfl) (by rfl) hres
      refine ⟨_, rfl, hT, ?_⟩
      have hC := hC.trans hc4
      have hG := hG.kept hc4 (fun e => e)
      have hgt := Nat.le_trans hgt hc4.size
      try (have hB5 := hc4.at hB5 (fun e => e))
      obtain ⟨Aa, ca, rfl, _⟩ := hva.form
      obtain ⟨Ab, cb, rfl, _⟩ := hvb.form
      refine AH.take 8 rfl (by kernel_rfl) (by kernel_rfl) (by kernel_rfl) (fun _ _ _ _ h => h) hT (by decide) (fun w hS => R.move rfl) ?_  -- law.go:15 t14 := (Op.move t22)
      refine AH.take 9 rfl (by kernel_rfl) (by kernel_rfl) (by kernel_rfl) (fun _ _ _ _ h => h) hT (by decide) (fun w hS => R.extract rfl rfl) ?_  -- law.go:15 t23 := (Op.extract t14 0)
      refine AH.take 10 rfl (by kernel_rfl) (by kernel_rfl) (by kernel_rfl) (fun _ _ _ _ h => h) hT (by decide) (fun w hS => R.extract rfl rfl) ?_  -- law.go:15 t24 := (Op.extract t14 1)
      refine AH.eff 11 (by kernel_rfl) rfl rfl (OP.alloc1 (.agg (Msg.cells ⟨0, false, false, false, 0, [], 0, [], []⟩ (.slice none 0 0) (.slice none 0 0)).toArray) (by decide) (by kernel_rfl) ?_)
      intro w5 hc5 hs5 hB5
      have hT := hc5.at hT (fun e => e)
      refine ⟨hT, ?_⟩
      have hC := hC.trans hc5
      have hG := hG.kept hc5 (fun e => e)
      have hgt5 := hgt
      have hgt := Nat.le_trans hgt hc5.size
      try (have hS0 := hS0.kept hc5 (fun _ _ _ e => e))
      try (have hgl := Nat.lt_of_lt_of_le hgl hc5.size)
      refine AH.eff 12 (by kernel_rfl) rfl rfl (OP.storeAgg inf33.choose_spec.1 (by rw [inf33.choose_spec.2]; rfl) rfl rfl (m_all _ _ _ _ _ _ _) hB5 rfl ?_)
      intro w6 hc6 hs6 hB6
      have hT := hc6.at hT (fun e => by omega)
      refine ⟨hT, ?_⟩
      have hC := hC.then hc6 (fun k hk e => by omega)
      refine AH.take 13 rfl (by kernel_rfl) (by kernel_rfl) (by kernel_rfl) (fun _ _ _ _ h => h) hT (by decide) (fun w hS => R.assign rfl) ?_  -- law.go:15 t5 := (Op.assign t24)
      refine AH.done (by kernel_rfl) ?_
      refine EW.next ?_
      refine CW.rseq ?_  -- region 4
      refine WL.op (by decide) (R.move rfl) ?_  -- law.go:16 t25 := (Op.move t1)
      refine WL.op (by decide) (R.eql rfl rfl (decide_eq_true (by decide))) ?_  -- law.go:16 t26 := (Op.binOp BinOp.eql 3 t25 c(Value.int IntKind.i64 5) 3)
      refine WL.op (by decide) (R.move rfl) ?_  -- law.go:16 t27 := (Op.move t26)
      refine WL.gop (by decide) rfl rfl rfl (R.move rfl) ?_  -- law.go:16 t28 := (Op.move t2) [guard 2 true]
      refine WL.gop (by decide) rfl rfl rfl (R.eql rfl rfl (decide_eq_true (by decide))) ?_  -- law.go:16 t29 := (Op.binOp BinOp.eql 3 t28 c(Value.int IntKind.i64 1024) 3) [guard 2 true]
      refine WL.op (by decide) (R.pickT rfl rfl) ?_  -- law.go:16 t30 := (Op.pick t27 t29 c(Value.bool false))
      refine WL.op (by decide) (R.move rfl) ?_  -- law.go:16 t31 := (Op.move t30)
      refine WL.gop (by decide) rfl rfl rfl (R.move rfl) ?_  -- law.go:16 t32 := (Op.move t5) [guard 6 true]
      refine WL.op (by decide) (R.pickT rfl rfl) ?_  -- law.go:16 t33 := (Op.pick t31 t32 c(Value.bool false))
      refine WL.op (by decide) (R.move rfl) ?_  -- law.go:16 t34 := (Op.move t33)
      refine WL.geff rfl rfl rfl (OP.call (by decide) Tryd.func33 (by kernel_rfl) (by kernel_rfl) rfl (name_any 0 _) ?_)
      rintro ed w9 ⟨rfl, hc9⟩
      refine ⟨_, rfl, ?_⟩
      have hC := hC.trans hc9
      refine WL.gop (by decide) rfl rfl rfl (R.eqlStrC rfl rfl (decide_eq_true (by kernel_rfl))) ?_  -- law.go:16 t36 := (Op.binOp BinOp.eql 9 t35 c(Value.string (ByteArray.mk [97])) 9) [guard 9 true]
      refine WL.op (by decide) (R.pickT rfl rfl) ?_  -- law.go:16 t37 := (Op.pick t34 t36 c(Value.bool false))
      refine WL.op (by decide) (R.assign rfl) ?_  -- law.go:16 t0 := (Op.assign t37)
      refine WL.next ?_
      refine CW.ret ?_
      exact EW.ret1 (.inl rfl) rfl rfl ⟨rfl, hC⟩
    · skip
      refine (OP.alloc1 (.agg (Msg.cells ⟨0, false, false, false, 0, [], 0, [], []⟩ (.slice none 0 0) (.slice none 0 0)).toArray) (by decide) (by kernel_rfl) ?_)
      intro w5 hc5 hs5 hB5
      have hT := hc5.at hT (fun e => e)
      refine ⟨hT, ?_⟩
      have hC := hC.trans hc5
      have hG := hG.kept hc5 (fun e => e)
      have hgt5 := hgt
      have hgt := Nat.le_trans hgt hc5.size
      try (have hS0 := hS0.kept hc5 (fun _ _ _ e => e))
      try (have hgl := Nat.lt_of_lt_of_le hgl hc5.size)
      refine AH.eff 7 (by kernel_rfl) rfl rfl (OP.call (by decide) Tryd.func23 (by kernel_rfl) (by kernel_rfl) rfl (match_any ⟨[97], 1, 0, 0, zero16, 5, 1024, false, false, 0⟩ 0 0 zero16 1024 _ _ _ bs0 _ rfl rfl hS0 (fun g o h => by injection h with h; injection h with h; omega) (by rw [hln]; decide) hG) ?_)
      rintro ed w4 ⟨hc4, hres⟩
      rw [hrt] at hres
      have hT := hc4.at hT (fun e => e)
      obtain ⟨v4, rfl, va, vb, rfl, hva, hvb, _⟩ := match_yes (by rfl) (by rfl) hres
      refine ⟨_, rfl, hT, ?_⟩
      have hC := hC.trans hc4
      have hG := hG.kept hc4 (fun e => e)
      have hgt := Nat.le_trans hgt hc4.size
      try (have hB5 := hc4.at hB5 (fun e => e))
      obtain ⟨Aa, ca, rfl, _⟩ := hva.form
      obtain ⟨Ab, cb, rfl, _⟩ := hvb.form
      refine AH.take 8 rfl (by kernel_rfl) (by kernel_rfl) (by kernel_rfl) (fun _ _ _ _ h => h) hT (by decide) (fun w hS => R.move rfl) ?_  -- law.go:15 t14 := (Op.move t22)
      refine AH.take 9 rfl (by kernel_rfl) (by kernel_rfl) (by kernel_rfl) (fun _ _ _ _ h => h) hT (by decide) (fun w hS => R.extract rfl rfl) ?_  -- law.go:15 t23 := (Op.extract t14 0)
      refine AH.take 10 rfl (by kernel_rfl) (by kernel_rfl) (by kernel_rfl) (fun _ _ _ _ h => h) hT (by decide) (fun w hS => R.extract rfl rfl) ?_  -- law.go:15 t24 := (Op.extract t14 1)
      refine AH.eff 12 (by kernel_rfl) rfl rfl (OP.storeAgg inf33.choose_spec.1 (by rw [inf33.choose_spec.2]; rfl) rfl rfl (m_all _ _ _ _ _ _ _) hB5 rfl ?_)
      intro w6 hc6 hs6 hB6
      have hT := hc6.at hT (fun e => by omega)
      refine ⟨hT, ?_⟩
      have hC := hC.then hc6 (fun k hk e => by omega)
      refine AH.take 13 rfl (by kernel_rfl) (by kernel_rfl) (by kernel_rfl) (fun _ _ _ _ h => h) hT (by decide) (fun w hS => R.assign rfl) ?_  -- law.go:15 t5 := (Op.assign t24)
      refine AH.done (by kernel_rfl) ?_
      refine EW.next ?_
      refine CW.rseq ?_  -- region 4
      refine WL.op (by decide) (R.move rfl) ?_  -- law.go:16 t25 := (Op.move t1)
      refine WL.op (by decide) (R.eql rfl rfl (decide_eq_true (by decide))) ?_  -- law.go:16 t26 := (Op.binOp BinOp.eql 3 t25 c(Value.int IntKind.i64 5) 3)
      refine WL.op (by decide) (R.move rfl) ?_  -- law.go:16 t27 := (Op.move t26)
      refine WL.gop (by decide) rfl rfl rfl (R.move rfl) ?_  -- law.go:16 t28 := (Op.move t2) [guard 2 true]
      refine WL.gop (by decide) rfl rfl rfl (R.eql rfl rfl (decide_eq_true (by decide))) ?_  -- law.go:16 t29 := (Op.binOp BinOp.eql 3 t28 c(Value.int IntKind.i64 1024) 3) [guard 2 true]
      refine WL.op (by decide) (R.pickT rfl rfl) ?_  -- law.go:16 t30 := (Op.pick t27 t29 c(Value.bool false))
      refine WL.op (by decide) (R.move rfl) ?_  -- law.go:16 t31 := (Op.move t30)
      refine WL.gop (by decide) rfl rfl rfl (R.move rfl) ?_  -- law.go:16 t32 := (Op.move t5) [guard 6 true]
      refine WL.op (by decide) (R.pickT rfl rfl) ?_  -- law.go:16 t33 := (Op.pick t31 t32 c(Value.bool false))
      refine WL.op (by decide) (R.move rfl) ?_  -- law.go:16 t34 := (Op.move t33)
      refine WL.geff rfl rfl rfl (OP.call (by decide) Tryd.func33 (by kernel_rfl) (by kernel_rfl) rfl (name_any 0 _) ?_)
      rintro ed w9 ⟨rfl, hc9⟩
      refine ⟨_, rfl, ?_⟩
      have hC := hC.trans hc9
      refine WL.gop (by decide) rfl rfl rfl (R.eqlStrC rfl rfl (decide_eq_true (by kernel_rfl))) ?_  -- law.go:16 t36 := (Op.binOp BinOp.eql 9 t35 c(Value.string (ByteArray.mk [97])) 9) [guard 9 true]
      refine WL.op (by decide) (R.pickT rfl rfl) ?_  -- law.go:16 t37 := (Op.pick t34 t36 c(Value.bool false))
      refine WL.op (by decide) (R.assign rfl) ?_  -- law.go:16 t0 := (Op.assign t37)
      refine WL.next ?_
      refine CW.ret ?_
      exact EW.ret1 (.inl rfl) rfl rfl ⟨rfl, hC⟩
  · skip
    refine (OP.alloc1 (.agg (Msg.cells ⟨0, false, false, false, 0, [], 0, [], []⟩ (.slice none 0 0) (.slice none 0 0)).toArray) (by decide) (by kernel_rfl) ?_)
    intro w5 hc5 hs5 hB5
    have hT := hc5.at hT (fun e => e)
    refine ⟨hT, ?_⟩
    have hC := hC.trans hc5
    have hG := hG.kept hc5 (fun e => e)
    have hgt5 := hgt
    have hgt := Nat.le_trans hgt hc5.size
    try (have hS0 := hS0.kept hc5 (fun _ _ _ e => e))
    try (have hgl := Nat.lt_of_lt_of_le hgl hc5.size)
    refine AH.eff 6 (by kernel_rfl) rfl rfl (OP.call (by decide) Tryd.func24 (by kernel_rfl) (by kernel_rfl) rfl (encode_any ⟨5, true, false, false, 0, [97], 1, [], []⟩ _ _ ⟨_, _, rfl, RSl.nil _, RSl.nil _⟩ ⟨by decide, by decide, by simp, by decide⟩) ?_)
    rintro ed w3 ⟨v3, rfl, hB, hc3⟩
    have hT := hc3.at hT (fun e => e)
    refine ⟨_, rfl, hT, ?_⟩
    have hG := hG.kept hc3 (fun e => e)
    have hC := hC.trans hc3
    have hgt := Nat.le_trans hgt hc3.size
    try (have hB5 := hc3.at hB5 (fun e => e))
    obtain ⟨bs0, hbs0⟩ : ∃ b, b = enc ⟨5, true, false, false, 0, [97], 1, [], []⟩ := ⟨_, rfl⟩
    rw [← hbs0] at hB
    have hrt := rt5
    have hln := congrArg List.length enc5
    rw [← hbs0] at hrt hln
    clear hbs0
    obtain ⟨g, cap, rfl, _, hgl, hle, hcell⟩ := hB.open (by intro h; rw [h] at hln; cases hln)
    have hS0 := hB.src hle hcell
    refine AH.eff 7 (by kernel_rfl) rfl rfl (OP.call (by decide) Tryd.func23 (by kernel_rfl) (by kernel_rfl) rfl (match_any ⟨[97], 1, 0, 0, zero16, 5, 1024, false, false, 0⟩ 0 0 zero16 1024 _ _ _ bs0 _ rfl rfl hS0 (fun g o h => by injection h with h; injection h with h; omega) (by rw [hln]; decide) hG) ?_)
    rintro ed w4 ⟨hc4, hres⟩
    rw [hrt] at hres
    have hT := hc4.at hT (fun e => e)
    obtain ⟨v4, rfl, va, vb, rfl, hva, hvb, _⟩ := match_yes (by rfl) (by rfl) hres
    refine ⟨_, rfl, hT, ?_⟩
    have hC := hC.trans hc4
    have hG := hG.kept hc4 (fun e => e)
    have hgt := Nat.le_trans hgt hc4.size
    try (have hB5 := hc4.at hB5 (fun e => e))
    obtain ⟨Aa, ca, rfl, _⟩ := hva.form
    obtain ⟨Ab, cb, rfl, _⟩ := hvb.form
    refine AH.take 8 rfl (by kernel_rfl) (by kernel_rfl) (by kernel_rfl) (fun _ _ _ _ h => h) hT (by decide) (fun w hS => R.move rfl) ?_  -- law.go:15 t14 := (Op.move t22)
    refine AH.take 9 rfl (by kernel_rfl) (by kernel_rfl) (by kernel_rfl) (fun _ _ _ _ h => h) hT (by decide) (fun w hS => R.extract rfl rfl) ?_  -- law.go:15 t23 := (Op.extract t14 0)
    refine AH.take 10 rfl (by kernel_rfl) (by kernel_rfl) (by kernel_rfl) (fun _ _ _ _ h => h) hT (by decide) (fun w hS => R.extract rfl rfl) ?_  -- law.go:15 t24 := (Op.extract t14 1)
    refine AH.eff 12 (by kernel_rfl) rfl rfl (OP.storeAgg inf33.choose_spec.1 (by rw [inf33.choose_spec.2]; rfl) rfl rfl (m_all _ _ _ _ _ _ _) hB5 rfl ?_)
    intro w6 hc6 hs6 hB6
    have hT := hc6.at hT (fun e => by omega)
    refine ⟨hT, ?_⟩
    have hC := hC.then hc6 (fun k hk e => by omega)
    refine AH.take 13 rfl (by kernel_rfl) (by kernel_rfl) (by kernel_rfl) (fun _ _ _ _ h => h) hT (by decide) (fun w hS => R.assign rfl) ?_  -- law.go:15 t5 := (Op.assign t24)
    refine AH.done (by kernel_rfl) ?_
    refine EW.next ?_
    refine CW.rseq ?_  -- region 4
    refine WL.op (by decide) (R.move rfl) ?_  -- law.go:16 t25 := (Op.move t1)
    refine WL.op (by decide) (R.eql rfl rfl (decide_eq_true (by decide))) ?_  -- law.go:16 t26 := (Op.binOp BinOp.eql 3 t25 c(Value.int IntKind.i64 5) 3)
    refine WL.op (by decide) (R.move rfl) ?_  -- law.go:16 t27 := (Op.move t26)
    refine WL.gop (by decide) rfl rfl rfl (R.move rfl) ?_  -- law.go:16 t28 := (Op.move t2) [guard 2 true]
    refine WL.gop (by decide) rfl rfl rfl (R.eql rfl rfl (decide_eq_true (by decide))) ?_  -- law.go:16 t29 := (Op.binOp BinOp.eql 3 t28 c(Value.int IntKind.i64 1024) 3) [guard 2 true]
    refine WL.op (by decide) (R.pickT rfl rfl) ?_  -- law.go:16 t30 := (Op.pick t27 t29 c(Value.bool false))
    refine WL.op (by decide) (R.move rfl) ?_  -- law.go:16 t31 := (Op.move t30)
    refine WL.gop (by decide) rfl rfl rfl (R.move rfl) ?_  -- law.go:16 t32 := (Op.move t5) [guard 6 true]
    refine WL.op (by decide) (R.pickT rfl rfl) ?_  -- law.go:16 t33 := (Op.pick t31 t32 c(Value.bool false))
    refine WL.op (by decide) (R.move rfl) ?_  -- law.go:16 t34 := (Op.move t33)
    refine WL.geff rfl rfl rfl (OP.call (by decide) Tryd.func33 (by kernel_rfl) (by kernel_rfl) rfl (name_any 0 _) ?_)
    rintro ed w9 ⟨rfl, hc9⟩
    refine ⟨_, rfl, ?_⟩
    have hC := hC.trans hc9
    refine WL.gop (by decide) rfl rfl rfl (R.eqlStrC rfl rfl (decide_eq_true (by kernel_rfl))) ?_  -- law.go:16 t36 := (Op.binOp BinOp.eql 9 t35 c(Value.string (ByteArray.mk [97])) 9) [guard 9 true]
    refine WL.op (by decide) (R.pickT rfl rfl) ?_  -- law.go:16 t37 := (Op.pick t34 t36 c(Value.bool false))
    refine WL.op (by decide) (R.assign rfl) ?_  -- law.go:16 t0 := (Op.assign t37)
    refine WL.next ?_
    refine CW.ret ?_
    exact EW.ret1 (.inl rfl) rfl rfl ⟨rfl, hC⟩
theorem shm (n : Int) : n / 2 ^ (16 : Int).toNat % 64512 < 64512 ∧ 0 ≤ n / 2 ^ (16 : Int).toNat % 64512 := by omega
theorem shn (n : Int) (h : ¬ n < 0) : 0 ≤ n / 2 ^ (16 : Int).toNat := by
  have h0 : (2 : Int) ^ (16 : Int).toNat = 65536 := rfl
  rw [h0]; omega
theorem drawPort_eq {n : Int} (h1 : ¬ n < 0) (h2 : ¬ n ≥ 1073741824) : drawPort n = 1024 + n / 2 ^ (16 : Int).toNat % 64512 := by
  unfold drawPort
  rw [show n % 18446744073709551616 = n from Int.emod_eq_of_lt (by omega) (by omega)]
theorem transDraws_any (n : Int) (w : World) (hG : Glob w) : Calls Tryd.prog 4 #[.int .i64 n] w fun e w' => e = .returned (.bool true) ∧ Chg (fun _ => False) w w' := by
  refine calls_cw (args := [.int .i64 n]) Tryd.func4 rfl rfl ?_
  show CW _ _ _ 48 [(0, .int .i64 n)] w
  refine CW.rseq ?_  -- region 0
  refine WL.op (by decide) (R.assign rfl) ?_  -- law.go:69 t2 := (Op.assign c(Value.bool false))
  refine WL.next ?_
  refine CW.seq ?_
  refine CW.rseq ?_  -- region 1
  refine WL.eff rfl (OP.call (args := []) (by decide) Tryd.func21 (by kernel_rfl) (by kernel_rfl) rfl (fit13_any w hG) ?_)
  rintro ed w1 ⟨rfl, hC⟩
  refine ⟨_, rfl, ?_⟩
  refine WL.op (by decide) (R.not rfl) ?_  -- law.go:70 t6 := (Op.unOp UnOp.not 4 t5)
  refine WL.next ?_
  refine CW.condF rfl ?_
  refine CW.skip ?_
  refine EW.next ?_
  refine CW.rseq ?_  -- region 3
  refine WL.op (by decide) (R.move rfl) ?_  -- law.go:73 t8 := (Op.move t0)
  refine WL.eff rfl (OP.call (by decide) Tryd.func26 (by kernel_rfl) (by kernel_rfl) rfl (draw_any n w1) ?_)
  rintro ed _ ⟨rfl, rfl⟩
  refine ⟨_, rfl, ?_⟩
  refine WL.op (by decide) (R.move rfl) ?_  -- law.go:73 t7 := (Op.move t9)
  refine WL.op (by decide) (R.extract rfl rfl) ?_  -- law.go:73 t10 := (Op.extract t7 0)
  refine WL.op (by decide) (R.extract rfl rfl) ?_  -- law.go:73 t11 := (Op.extract t7 1)
  refine WL.op (by decide) (R.assign rfl) ?_  -- law.go:73 t3 := (Op.assign t10)
  refine WL.op (by decide) (R.assign rfl) ?_  -- law.go:73 t4 := (Op.assign t11)
  refine WL.next ?_
  refine CW.rseq ?_  -- region 4
  refine WL.op (by decide) (R.move rfl) ?_  -- law.go:74 t12 := (Op.move t3)
  refine WL.op (by decide) (R.geq rfl rfl (decide_eq_true (by unfold drawId; omega))) ?_  -- law.go:74 t13 := (Op.binOp BinOp.geq 3 t12 c(Value.int IntKind.i64 0) 3)
  refine WL.op (by decide) (R.move rfl) ?_  -- law.go:74 t14 := (Op.move t13)
  refine WL.gop (by decide) rfl rfl rfl (R.move rfl) ?_  -- law.go:74 t15 := (Op.move t3) [guard 2 true]
  refine WL.gop (by decide) rfl rfl rfl (R.leq rfl rfl (decide_eq_true (by unfold drawId; omega))) ?_  -- law.go:74 t16 := (Op.binOp BinOp.leq 3 t15 c(Value.int IntKind.i64 65535) 3) [guard 2 true]
  refine WL.op (by decide) (R.pickT rfl rfl) ?_  -- law.go:74 t17 := (Op.pick t14 t16 c(Value.bool false))
  refine WL.op (by decide) (R.move rfl) ?_  -- law.go:74 t18 := (Op.move t17)
  refine WL.gop (by decide) rfl rfl rfl (R.move rfl) ?_  -- law.go:74 t19 := (Op.move t4) [guard 6 true]
  refine WL.gop (by decide) rfl rfl rfl (R.geq rfl rfl (decide_eq_true (by have := sh16m n; unfold drawPort; omega))) ?_  -- law.go:74 t20 := (Op.binOp BinOp.geq 3 t19 c(Value.int IntKind.i64 1024) 3) [guard 6 true]
  refine WL.op (by decide) (R.pickT rfl rfl) ?_  -- law.go:74 t21 := (Op.pick t18 t20 c(Value.bool false))
  refine WL.op (by decide) (R.move rfl) ?_  -- law.go:74 t22 := (Op.move t21)
  refine WL.gop (by decide) rfl rfl rfl (R.move rfl) ?_  -- law.go:74 t23 := (Op.move t4) [guard 10 true]
  refine WL.gop (by decide) rfl rfl rfl (R.leq rfl rfl (decide_eq_true (by have := sh16m n; unfold drawPort; omega))) ?_  -- law.go:74 t24 := (Op.binOp BinOp.leq 3 t23 c(Value.int IntKind.i64 65535) 3) [guard 10 true]
  refine WL.op (by decide) (R.pickT rfl rfl) ?_  -- law.go:74 t25 := (Op.pick t22 t24 c(Value.bool false))
  refine WL.op (by decide) (R.move rfl) ?_  -- law.go:74 t26 := (Op.move t25)
  refine WL.gop (by decide) rfl rfl rfl (R.move rfl) ?_  -- law.go:74 t27 := (Op.move t3) [guard 14 true]
  refine WL.gop (by decide) rfl rfl rfl (R.move rfl) ?_  -- law.go:74 t28 := (Op.move t0) [guard 14 true]
  refine WL.gop (by decide) rfl rfl rfl (R.mask 16 rfl rfl (by decide) rfl rfl) ?_  -- law.go:74 t29 := (Op.binOp BinOp.and 3 t28 c(Value.int IntKind.i64 65535) 3) [guard 14 true]
  refine WL.gop (by decide) rfl rfl rfl (R.eql rfl rfl (decide_eq_true (rfl))) ?_  -- law.go:74 t30 := (Op.binOp BinOp.eql 3 t27 t29 3) [guard 14 true]
  refine WL.op (by decide) (R.pickT rfl rfl) ?_  -- law.go:74 t31 := (Op.pick t26 t30 c(Value.bool false))
  refine WL.op (by decide) (R.move rfl) ?_  -- law.go:74 t32 := (Op.move t31)
  refine WL.gop (by decide) rfl rfl rfl (R.move rfl) ?_  -- law.go:74 t33 := (Op.move t0) [guard 20 true]
  refine WL.gsplit _ (by decide) rfl rfl rfl (R.lssD rfl rfl) (fun h1 => ?_) (fun h1 => ?_)  -- law.go:74 t34 := (Op.binOp BinOp.lss 3 t33 c(Value.int IntKind.i64 0) 3) [guard 20 true]
  · skip
    refine WL.gop (by decide) rfl rfl rfl (R.move rfl) ?_  -- law.go:74 t35 := (Op.move t34) [guard 20 true]
    refine WL.pass (by decide) rfl rfl rfl ?_  -- law.go:74 t36 := (Op.move t0) [guard 23 false]
    refine WL.pass (by decide) rfl rfl rfl ?_  -- law.go:74 t37 := (Op.binOp BinOp.geq 3 t36 c(Value.int IntKind.i64 1073741824) 3) [guard 23 false]
    refine WL.gop (by decide) rfl rfl rfl (R.pickT rfl rfl) ?_  -- law.go:74 t38 := (Op.pick t35 c(Value.bool true) t37) [guard 20 true]
    refine WL.gop (by decide) rfl rfl rfl (R.move rfl) ?_  -- law.go:74 t39 := (Op.move t38) [guard 20 true]
    refine WL.pass (by decide) rfl rfl rfl ?_  -- law.go:74 t40 := (Op.move t4) [guard 27 false]
    refine WL.pass (by decide) rfl rfl rfl ?_  -- law.go:74 t41 := (Op.move t0) [guard 27 false]
    refine WL.pass (by decide) rfl rfl rfl ?_  -- law.go:74 t42 := (Op.binOp BinOp.shr 3 t41 c(Value.int IntKind.u64 16) 42) [guard 27 false]
    refine WL.pass (by decide) rfl rfl rfl ?_  -- law.go:74 t43 := (Op.binOp BinOp.rem 3 t42 c(Value.int IntKind.i64 64512) 3) [guard 27 false]
    refine WL.pass (by decide) rfl rfl rfl ?_  -- law.go:74 t44 := (Op.binOp BinOp.add 3 c(Value.int IntKind.i64 1024) t43 3) [guard 27 false]
    refine WL.pass (by decide) rfl rfl rfl ?_  -- law.go:74 t45 := (Op.binOp BinOp.eql 3 t40 t44 3) [guard 27 false]
    refine WL.gop (by decide) rfl rfl rfl (R.pickT rfl rfl) ?_  -- law.go:74 t46 := (Op.pick t39 c(Value.bool true) t45) [guard 20 true]
    refine WL.op (by decide) (R.pickT rfl rfl) ?_  -- law.go:74 t47 := (Op.pick t32 t46 c(Value.bool false))
    refine WL.op (by decide) (R.assign rfl) ?_  -- law.go:74 t2 := (Op.assign t47)
    refine WL.next ?_
    refine CW.ret ?_
    exact EW.ret1 (.inl rfl) rfl rfl ⟨rfl, hC⟩
  · skip
    refine WL.gop (by decide) rfl rfl rfl (R.move rfl) ?_  -- law.go:74 t35 := (Op.move t34) [guard 20 true]
    refine WL.gop (by decide) rfl rfl rfl (R.move rfl) ?_  -- law.go:74 t36 := (Op.move t0) [guard 23 false]
    refine WL.gsplit _ (by decide) rfl rfl rfl (R.geqD rfl rfl) (fun h2 => ?_) (fun h2 => ?_)  -- law.go:74 t37 := (Op.binOp BinOp.geq 3 t36 c(Value.int IntKind.i64 1073741824) 3) [guard 23 false]
    · skip
      refine WL.gop (by decide) rfl rfl rfl (R.pickF rfl rfl) ?_  -- law.go:74 t38 := (Op.pick t35 c(Value.bool true) t37) [guard 20 true]
      refine WL.gop (by decide) rfl rfl rfl (R.move rfl) ?_  -- law.go:74 t39 := (Op.move t38) [guard 20 true]
      refine WL.pass (by decide) rfl rfl rfl ?_  -- law.go:74 t40 := (Op.move t4) [guard 27 false]
      refine WL.pass (by decide) rfl rfl rfl ?_  -- law.go:74 t41 := (Op.move t0) [guard 27 false]
      refine WL.pass (by decide) rfl rfl rfl ?_  -- law.go:74 t42 := (Op.binOp BinOp.shr 3 t41 c(Value.int IntKind.u64 16) 42) [guard 27 false]
      refine WL.pass (by decide) rfl rfl rfl ?_  -- law.go:74 t43 := (Op.binOp BinOp.rem 3 t42 c(Value.int IntKind.i64 64512) 3) [guard 27 false]
      refine WL.pass (by decide) rfl rfl rfl ?_  -- law.go:74 t44 := (Op.binOp BinOp.add 3 c(Value.int IntKind.i64 1024) t43 3) [guard 27 false]
      refine WL.pass (by decide) rfl rfl rfl ?_  -- law.go:74 t45 := (Op.binOp BinOp.eql 3 t40 t44 3) [guard 27 false]
      refine WL.gop (by decide) rfl rfl rfl (R.pickT rfl rfl) ?_  -- law.go:74 t46 := (Op.pick t39 c(Value.bool true) t45) [guard 20 true]
      refine WL.op (by decide) (R.pickT rfl rfl) ?_  -- law.go:74 t47 := (Op.pick t32 t46 c(Value.bool false))
      refine WL.op (by decide) (R.assign rfl) ?_  -- law.go:74 t2 := (Op.assign t47)
      refine WL.next ?_
      refine CW.ret ?_
      exact EW.ret1 (.inl rfl) rfl rfl ⟨rfl, hC⟩
    · skip
      refine WL.gop (by decide) rfl rfl rfl (R.pickF rfl rfl) ?_  -- law.go:74 t38 := (Op.pick t35 c(Value.bool true) t37) [guard 20 true]
      refine WL.gop (by decide) rfl rfl rfl (R.move rfl) ?_  -- law.go:74 t39 := (Op.move t38) [guard 20 true]
      refine WL.gop (by decide) rfl rfl rfl (R.move rfl) ?_  -- law.go:74 t40 := (Op.move t4) [guard 27 false]
      refine WL.gop (by decide) rfl rfl rfl (R.move rfl) ?_  -- law.go:74 t41 := (Op.move t0) [guard 27 false]
      refine WL.gop (by decide) rfl rfl rfl (R.shr rfl rfl (by omega)) ?_  -- law.go:74 t42 := (Op.binOp BinOp.shr 3 t41 c(Value.int IntKind.u64 16) 42) [guard 27 false]
      refine WL.gop (by decide) rfl rfl rfl (R.remN rfl rfl (by decide) (shn n (by omega))) ?_  -- law.go:74 t43 := (Op.binOp BinOp.rem 3 t42 c(Value.int IntKind.i64 64512) 3) [guard 27 false]
      refine WL.gop (by decide) rfl rfl rfl (R.add rfl rfl (by have := shm n; omega)) ?_  -- law.go:74 t44 := (Op.binOp BinOp.add 3 c(Value.int IntKind.i64 1024) t43 3) [guard 27 false]
      refine WL.gop (by decide) rfl rfl rfl (R.eql rfl rfl (decide_eq_true (drawPort_eq (by omega) (by omega)))) ?_  -- law.go:74 t45 := (Op.binOp BinOp.eql 3 t40 t44 3) [guard 27 false]
      refine WL.gop (by decide) rfl rfl rfl (R.pickF rfl rfl) ?_  -- law.go:74 t46 := (Op.pick t39 c(Value.bool true) t45) [guard 20 true]
      refine WL.op (by decide) (R.pickT rfl rfl) ?_  -- law.go:74 t47 := (Op.pick t32 t46 c(Value.bool false))
      refine WL.op (by decide) (R.assign rfl) ?_  -- law.go:74 t2 := (Op.assign t47)
      refine WL.next ?_
      refine CW.ret ?_
      exact EW.ret1 (.inl rfl) rfl rfl ⟨rfl, hC⟩
end Go.Proofs.YthcpjcgjmdfpjaaDoor
