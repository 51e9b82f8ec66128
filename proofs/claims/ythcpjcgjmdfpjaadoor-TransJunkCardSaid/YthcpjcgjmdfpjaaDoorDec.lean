/- msg.Decode. -/
import Derived.Test.YthcpjcgjmdfpjaaDoorDecSpec
namespace Go.Proofs.YthcpjcgjmdfpjaaDoor
open Go Go.RowKit
set_option maxRecDepth 100000
set_option maxHeartbeats 8000000

theorem build100_1 (A : Option Addr) (m c : Nat) (w : World) : (Instr.build 100 #[(0, .slice A m c)]).run Tryd.prog w = .ok (.agg #[.slice A m c, .int .i64 0, .bool false]) w := by kernel_rfl
theorem build33_1 (i : Int) (w : World) : (Instr.build 33 #[(0, .int .i64 i)]).run Tryd.prog w = .ok (.agg (Msg.cells ⟨i, false, false, false, 0, [], 0, [], []⟩ (.slice none 0 0) (.slice none 0 0)).toArray) w := by kernel_rfl
theorem build33_0 (w : World) : (Instr.build 33 #[]).run Tryd.prog w = .ok (.agg (Msg.cells ⟨0, false, false, false, 0, [], 0, [], []⟩ (.slice none 0 0) (.slice none 0 0)).toArray) w := by kernel_rfl
theorem build102 (a b c d : Int) (w : World) : (Instr.build 102 #[(0, .int .i64 a), (1, .int .i64 b), (2, .int .i64 c), (3, .int .i64 d)]).run Tryd.prog w = .ok (.agg #[.int .i64 a, .int .i64 b, .int .i64 c, .int .i64 d]) w := by kernel_rfl
theorem build25_2 (s : List UInt8) (t : Int) (w : World) : (Instr.build 25 #[(0, sv s), (1, .int .i64 t)]).run Tryd.prog w = .ok (.agg #[sv s, .int .i64 t]) w := by unfold sv; kernel_rfl
theorem inf33 : ∃ i, Tryd.prog.info? 33 = some i ∧ i.size = 9 := inf_of sz33
theorem inf102 : ∃ i, Tryd.prog.info? 102 = some i ∧ i.size = 4 := inf_of sz102
theorem m_all (m : Msg) (A : Option Addr) (n c : Nat) (B : Option Addr) (k d : Nat) : (m.cells (.slice A n c) (.slice B k d)).toArray.all (·.oneCell') = true := by
  rw [Array.all_eq_true_iff_forall_mem]
  intro u hu
  simp only [Msg.cells, List.mem_toArray, List.mem_cons, List.not_mem_nil, or_false] at hu
  rcases hu with rfl | rfl | rfl | rfl | rfl | rfl | rfl | rfl | rfl <;> rfl
theorem q_all (s : List UInt8) (t : Int) : (#[sv s, .int .i64 t] : Array Value).all (·.oneCell') = true := by
  rw [Array.all_eq_true_iff_forall_mem]
  intro u hu
  simp only [List.mem_toArray, List.mem_cons, List.not_mem_nil, or_false] at hu
  rcases hu with rfl | rfl <;> rfl
theorem c_all (a b c d : Int) : (#[.int .i64 a, .int .i64 b, .int .i64 c, .int .i64 d] : Array Value).all (·.oneCell') = true := by
  rw [Array.all_eq_true_iff_forall_mem]
  intro u hu
  simp only [List.mem_toArray, List.mem_cons, List.not_mem_nil, or_false] at hu
  rcases hu with rfl | rfl | rfl | rfl <;> rfl
theorem in_or {bs : List UInt8} {a : Nat} {b c : Bool} {v : Nat} (h : c = (b || decide (v ≠ 1))) (hi : In bs a b) : In bs a c := by
  intro hc
  cases b with
  | true => rw [hc] at h; simp at h
  | false => exact hi rfl
theorem cls_no {b : Bool} {v : Nat} (h : v ≠ 1) : true = (b || decide (v ≠ 1)) := by simp [h]
theorem cls_yes {b : Bool} {v : Nat} (h : v = 1) : b = (b || decide (v ≠ 1)) := by simp [h]
theorem small_snoc {rs : List Rec} {r : Rec} (h : ∀ x ∈ rs, x.small) (hr : r.small) : ∀ x ∈ rs ++ [r], x.small := by
  intro x hx
  rcases List.mem_append.1 hx with h1 | h1
  · exact h x h1
  · rw [List.mem_singleton.1 h1]; exact hr
theorem small_app {rs q : List Rec} (h : ∀ x ∈ rs, x.small) (hr : ∀ x ∈ q, x.small) : ∀ x ∈ rs ++ q, x.small := by
  intro x hx
  rcases List.mem_append.1 hx with h1 | h1
  · exact h x h1
  · exact hr x h1
section
variable {bs : List UInt8} {c1 c2 a9 a' a'' : Nat} {b10 b' : Bool} {rs rs2 : List Rec} {F : List Rec → List Rec → Option Msg} {M : Msg}
theorem dec_none {G : List Rec → List Rec → Msg} (hd : decode bs = match recsSt bs c1 a9 b10 [] with
      | none => none
      | some (an, a2) => match recsSt bs c2 a2 false [] with
        | none => none
        | some (au, _) => finM (G an au)) (h1 : recsSt bs c1 a9 b10 [] = if b' = true then none else some (rs, a')) (h2 : recsSt bs c2 a' b' [] = if true = true then none else some (rs2, a'')) : decode bs = none := by
  rw [hd, h1]
  cases b' with
  | true => rfl
  | false => rw [if_neg (by simp)]; simp only; rw [h2, if_pos rfl]
theorem dec_fin {G : List Rec → List Rec → Msg} (hd : decode bs = match recsSt bs c1 a9 b10 [] with
      | none => none
      | some (an, a2) => match recsSt bs c2 a2 false [] with
        | none => none
        | some (au, _) => finM (G an au)) (h1 : recsSt bs c1 a9 b10 [] = if b' = true then none else some (rs, a')) (h2 : recsSt bs c2 a' b' [] = if false = true then none else some (rs2, a'')) : decode bs = finM (G rs rs2) := by
  have hb : b' = false := by
    cases b' with
    | false => rfl
    | true => unfold recsSt at h2; rw [if_pos rfl, if_neg (by simp)] at h2; cases h2
  subst hb
  rw [hd, h1, if_neg (by simp)]; simp only; rw [h2, if_neg (by simp)]
end
theorem dec_notall {bs : List UInt8} {c1 c2 a9 a' a'' : Nat} {b10 b' : Bool} {rs rs2 : List Rec} {G : List Rec → List Rec → Msg} (hd : decode bs = match recsSt bs c1 a9 b10 [] with
      | none => none
      | some (an, a2) => match recsSt bs c2 a2 false [] with
        | none => none
        | some (au, _) => finM (G an au)) (h1 : recsSt bs c1 a9 b10 [] = if b' = true then none else some (rs, a')) (h2 : recsSt bs c2 a' b' [] = if false = true then none else some (rs2, a'')) (h : allM (G rs rs2) = false) : decode bs = none := by
  rw [dec_fin hd h1 h2, finM, h]; rfl
theorem dec_some {bs : List UInt8} {c1 c2 a9 a' a'' : Nat} {b10 b' : Bool} {rs rs2 : List Rec} {G : List Rec → List Rec → Msg} (hd : decode bs = match recsSt bs c1 a9 b10 [] with
      | none => none
      | some (an, a2) => match recsSt bs c2 a2 false [] with
        | none => none
        | some (au, _) => finM (G an au)) (h1 : recsSt bs c1 a9 b10 [] = if b' = true then none else some (rs, a')) (h2 : recsSt bs c2 a' b' [] = if false = true then none else some (rs2, a'')) (h : allM (G rs rs2) = true) : decode bs = some (G rs rs2) := by
  rw [dec_fin hd h1 h2, finM, h]; rfl

/-- A message's zero value. -/
def zeroMV : Value := .agg (Msg.cells ⟨0, false, false, false, 0, [], 0, [], []⟩ (.slice none 0 0) (.slice none 0 0)).toArray
/-- What Decode leaves. -/
def DecRes (base : Nat) (res : Option Msg) (e : Ending) (w : World) : Prop :=
  match res with
  | some m => ∃ v, e = .returned (.tuple #[v, .int .i64 0]) ∧ MVF base w v m
  | none => e = .returned (.tuple #[zeroMV, .int .i64 4])
theorem decode_any (A : Option Addr) (m c : Nat) (bs : List UInt8) (w : World) (hS : Src w A m c bs) (hgl : ∀ g o, A = some ⟨g, o, none⟩ → g < w.heap.size) (hm : m ≤ 1099511627776) (hG : Glob w) :
    Calls Tryd.prog 27 #[.slice A m c] w fun e w' => Chg (fun _ => False) w w' ∧ DecRes w.heap.size (decode bs) e w' := by
  have h0 : 0 < w.heap.size := World.block_lt_of_cell? w ⟨0, 0, none⟩ (hG 0 (u8v 0) rfl)
  refine calls_cw (args := [.slice A m c]) Tryd.func27 rfl rfl ?_
  show CW _ _ _ 106 [(0, .slice A m c)] w
  refine CW.rseq ?_  -- region 0
  refine WL.eff rfl (OP.alloc1 (.agg (Msg.cells ⟨0, false, false, false, 0, [], 0, [], []⟩ (.slice none 0 0) (.slice none 0 0)).toArray) (by decide) (by kernel_rfl) ?_)
  intro w1 hc1 hs1 hB2
  obtain ⟨br, he_br⟩ : ∃ b, b = w.heap.size := ⟨_, rfl⟩
  rw [← he_br] at hB2 ⊢
  have hC := hc1
  have hS := hS.kept hc1 (fun _ _ _ h => h)
  have hG := hG.kept hc1 (fun h => h)
  refine WL.op (by decide) (R.assign rfl) ?_  -- msg.go:242 t3 := (Op.assign c(Value.int IntKind.i64 0))
  refine WL.next ?_
  refine CW.rseq ?_  -- region 1
  refine WL.op (by decide) (R.move rfl) ?_  -- msg.go:243 t9 := (Op.move t0)
  refine WL.op (by decide) (R.build (parts := [(0, _)]) (vals := [(0, _)]) rfl (fun w => build100_1 _ _ _ w)) ?_  -- msg.go:243 t10 := (Op.build 100 [(0, t9)])
  refine WL.eff rfl (OP.box (by decide) rfl ?_)
  intro w2 hc2 hs2 hRn
  have hR : RSt w2 w1.heap.size A m c 0 false := hRn
  clear hRn
  obtain ⟨rb, he_rb⟩ : ∃ b, b = w1.heap.size := ⟨_, rfl⟩
  rw [← he_rb] at hR ⊢
  have hz := hc2.size
  have hC := hC.then hc2 (fun k hk e => e.elim)
  have hS := hS.kept hc2 (fun g o h e => e)
  have hG := hG.kept hc2 (fun e => e)
  have hB2 := hc2.at hB2 (fun e => e)
  refine WL.op (by decide) (R.assign rfl) ?_  -- msg.go:243 t4 := (Op.assign t11)
  refine WL.next ?_
  refine CW.rseq ?_  -- region 2
  refine WL.op (by decide) (R.move rfl) ?_  -- msg.go:244 t12 := (Op.move t4)
  refine WL.eff rfl (OP.call (by decide) Tryd.func45 (by kernel_rfl) (by kernel_rfl) rfl (num_st rb A m c bs 2 _ _ _ hR hS (by decide) (by decide) (fun _ => by omega) hm) ?_)
  rintro ed w3 ⟨vi, a1, b1, e1, rfl, hR, hc3⟩
  refine ⟨_, rfl, ?_⟩
  have hin3 := numR_in e1
  have hlt3 := numR_lt2 e1
  have hz := hc3.size
  have hC := hC.then hc3 (fun k hk e => by omega)
  have hS := hS.kept hc3 (fun g o h e => by have := hgl g o h; omega)
  have hG := hG.kept hc3 (fun e => by omega)
  have hB2 := hc3.at hB2 (fun e => by omega)
  refine WL.op (by decide) (R.build (parts := [(0, _)]) (vals := [(0, _)]) rfl (fun w => build33_1 _ w)) ?_  -- msg.go:244 t14 := (Op.build 33 [(0, t13)])
  refine WL.eff rfl (OP.alloc1 (.agg (Msg.cells ⟨0, false, false, false, 0, [], 0, [], []⟩ (.slice none 0 0) (.slice none 0 0)).toArray) (by decide) (by kernel_rfl) ?_)
  intro w4 hc4 hs4 hBm
  obtain ⟨mb, he_mb⟩ : ∃ b, b = w3.heap.size := ⟨_, rfl⟩
  rw [← he_mb] at hBm ⊢
  have hR := hc4.at hR (fun h => h)
  have hz := hc4.size
  have hC := hC.then hc4 (fun k hk e => e.elim)
  have hS := hS.kept hc4 (fun g o h e => e)
  have hG := hG.kept hc4 (fun e => e)
  have hB2 := hc4.at hB2 (fun e => e)
  refine WL.eff rfl (OP.storeAgg inf33.choose_spec.1 (by rw [inf33.choose_spec.2]; rfl) rfl rfl (m_all _ _ _ _ _ _ _) hBm rfl ?_)
  intro w5 hc5 hs5 hBm
  have hR := hc5.at hR (by omega)
  have hz := hc5.size
  have hC := hC.then hc5 (fun k hk e => by omega)
  have hS := hS.kept hc5 (fun g o h e => by have := hgl g o h; omega)
  have hG := hG.kept hc5 (fun e => by omega)
  have hB2 := hc5.at hB2 (fun e => by omega)
  refine WL.next ?_
  refine CW.rseq ?_  -- region 3
  refine WL.op (by decide) (R.move rfl) ?_  -- msg.go:245 t15 := (Op.move t4)
  refine WL.eff rfl (OP.call (by decide) Tryd.func45 (by kernel_rfl) (by kernel_rfl) rfl (num_st rb A m c bs 2 _ _ _ hR hS (by decide) (by decide) hin3 hm) ?_)
  rintro ed w6 ⟨vf, a2, b2, e2, rfl, hR, hc6⟩
  refine ⟨_, rfl, ?_⟩
  have hin6 := numR_in e2
  have hlt6 := numR_lt2 e2
  have hz := hc6.size
  have hC := hC.then hc6 (fun k hk e => by omega)
  have hS := hS.kept hc6 (fun g o h e => by have := hgl g o h; omega)
  have hG := hG.kept hc6 (fun e => by omega)
  have hB2 := hc6.at hB2 (fun e => by omega)
  have hBm := hc6.at hBm (fun e => by omega)
  refine WL.op (by decide) (R.assign rfl) ?_  -- msg.go:245 t6 := (Op.assign t16)
  refine WL.next ?_
  refine CW.rseq ?_  -- region 4
  refine WL.op (by decide) (R.move rfl) ?_  -- msg.go:246 t17 := (Op.move t6)
  refine WL.op (by decide) (R.andN (b := 32768) rfl rfl (by omega) (by decide)) ?_  -- msg.go:246 t18 := (Op.binOp BinOp.and 3 t17 c(Value.int IntKind.i64 32768) 3)
  refine WL.op (by decide) (R.gtr0 rfl rfl) ?_  -- msg.go:246 t19 := (Op.binOp BinOp.gtr 3 t18 c(Value.int IntKind.i64 0) 3)
  refine WL.op (by decide) (R.move rfl) ?_  -- msg.go:246 t20 := (Op.move t6)
  refine WL.op (by decide) (R.andN (b := 512) rfl rfl (by omega) (by decide)) ?_  -- msg.go:246 t21 := (Op.binOp BinOp.and 3 t20 c(Value.int IntKind.i64 512) 3)
  refine WL.op (by decide) (R.gtr0 rfl rfl) ?_  -- msg.go:246 t22 := (Op.binOp BinOp.gtr 3 t21 c(Value.int IntKind.i64 0) 3)
  refine WL.op (by decide) (R.move rfl) ?_  -- msg.go:246 t23 := (Op.move t6)
  refine WL.op (by decide) (R.andN (b := 256) rfl rfl (by omega) (by decide)) ?_  -- msg.go:246 t24 := (Op.binOp BinOp.and 3 t23 c(Value.int IntKind.i64 256) 3)
  refine WL.op (by decide) (R.gtr0 rfl rfl) ?_  -- msg.go:246 t25 := (Op.binOp BinOp.gtr 3 t24 c(Value.int IntKind.i64 0) 3)
  refine WL.op (by decide) (R.move rfl) ?_  -- msg.go:246 t26 := (Op.move t6)
  refine WL.op (by decide) (R.andN (b := 15) rfl rfl (by omega) (by decide)) ?_  -- msg.go:246 t27 := (Op.binOp BinOp.and 3 t26 c(Value.int IntKind.i64 15) 3)
  refine WL.op (by decide) (FA33_1 rfl) ?_  -- msg.go:246 t28 := (Op.fieldAddr 33 t5 1)
  refine WL.eff rfl (OP.store1 sz4 rfl rfl rfl rfl hBm (Nat.le_of_ble_eq_true rfl) rfl ?_)
  intro w7 hc7 _ hBm
  have hR := hc7.at hR (by omega)
  have hz := hc7.size
  have hC := hC.then hc7 (fun k hk e => by omega)
  have hS := hS.kept hc7 (fun g o h e => by have := hgl g o h; omega)
  have hG := hG.kept hc7 (fun e => by omega)
  have hB2 := hc7.at hB2 (fun e => by omega)
  refine WL.op (by decide) (FA33_2 rfl) ?_  -- msg.go:246 t29 := (Op.fieldAddr 33 t5 2)
  refine WL.eff rfl (OP.store1 sz4 rfl rfl rfl rfl hBm (Nat.le_of_ble_eq_true rfl) rfl ?_)
  intro w8 hc8 _ hBm
  have hR := hc8.at hR (by omega)
  have hz := hc8.size
  have hC := hC.then hc8 (fun k hk e => by omega)
  have hS := hS.kept hc8 (fun g o h e => by have := hgl g o h; omega)
  have hG := hG.kept hc8 (fun e => by omega)
  have hB2 := hc8.at hB2 (fun e => by omega)
  refine WL.op (by decide) (FA33_3 rfl) ?_  -- msg.go:246 t30 := (Op.fieldAddr 33 t5 3)
  refine WL.eff rfl (OP.store1 sz4 rfl rfl rfl rfl hBm (Nat.le_of_ble_eq_true rfl) rfl ?_)
  intro w9 hc9 _ hBm
  have hR := hc9.at hR (by omega)
  have hz := hc9.size
  have hC := hC.then hc9 (fun k hk e => by omega)
  have hS := hS.kept hc9 (fun g o h e => by have := hgl g o h; omega)
  have hG := hG.kept hc9 (fun e => by omega)
  have hB2 := hc9.at hB2 (fun e => by omega)
  refine WL.op (by decide) (FA33_4 rfl) ?_  -- msg.go:246 t31 := (Op.fieldAddr 33 t5 4)
  refine WL.eff rfl (OP.store1 sz3 rfl rfl rfl rfl hBm (Nat.le_of_ble_eq_true rfl) rfl ?_)
  intro w10 hc10 _ hBmn
  have hBm : w10.heap[mb]? = some (.cells (Msg.cells ⟨(vi : Int), decide (0 < vf &&& 32768), decide (0 < vf &&& 512), decide (0 < vf &&& 256), ((vf &&& 15 : Nat) : Int), [], 0, [], []⟩ (.slice none 0 0) (.slice none 0 0)).toArray 33 (0, 0)) := hBmn
  have hR := hc10.at hR (by omega)
  have hz := hc10.size
  have hC := hC.then hc10 (fun k hk e => by omega)
  have hS := hS.kept hc10 (fun g o h e => by have := hgl g o h; omega)
  have hG := hG.kept hc10 (fun e => by omega)
  have hB2 := hc10.at hB2 (fun e => by omega)
  refine WL.next ?_
  refine CW.rseq ?_  -- region 5
  refine WL.op (by decide) (R.move rfl) ?_  -- msg.go:247 t32 := (Op.move t4)
  refine WL.eff rfl (OP.call (by decide) Tryd.func45 (by kernel_rfl) (by kernel_rfl) rfl (num_st rb A m c bs 2 _ _ _ hR hS (by decide) (by decide) hin6 hm) ?_)
  rintro ed w11 ⟨c0, a3, b3, e3, rfl, hR, hc11⟩
  refine ⟨_, rfl, ?_⟩
  have hin11 := numR_in e3
  have hlt11 := numR_lt2 e3
  have hz := hc11.size
  have hC := hC.then hc11 (fun k hk e => by omega)
  have hS := hS.kept hc11 (fun g o h e => by have := hgl g o h; omega)
  have hG := hG.kept hc11 (fun e => by omega)
  have hB2 := hc11.at hB2 (fun e => by omega)
  have hBm := hc11.at hBm (fun e => by omega)
  refine WL.op (by decide) (R.move rfl) ?_  -- msg.go:247 t34 := (Op.move t4)
  refine WL.eff rfl (OP.call (by decide) Tryd.func45 (by kernel_rfl) (by kernel_rfl) rfl (num_st rb A m c bs 2 _ _ _ hR hS (by decide) (by decide) hin11 hm) ?_)
  rintro ed w12 ⟨c1, a4, b4, e4, rfl, hR, hc12⟩
  refine ⟨_, rfl, ?_⟩
  have hin12 := numR_in e4
  have hlt12 := numR_lt2 e4
  have hz := hc12.size
  have hC := hC.then hc12 (fun k hk e => by omega)
  have hS := hS.kept hc12 (fun g o h e => by have := hgl g o h; omega)
  have hG := hG.kept hc12 (fun e => by omega)
  have hB2 := hc12.at hB2 (fun e => by omega)
  have hBm := hc12.at hBm (fun e => by omega)
  refine WL.op (by decide) (R.move rfl) ?_  -- msg.go:247 t36 := (Op.move t4)
  refine WL.eff rfl (OP.call (by decide) Tryd.func45 (by kernel_rfl) (by kernel_rfl) rfl (num_st rb A m c bs 2 _ _ _ hR hS (by decide) (by decide) hin12 hm) ?_)
  rintro ed w13 ⟨c2, a5, b5, e5, rfl, hR, hc13⟩
  refine ⟨_, rfl, ?_⟩
  have hin13 := numR_in e5
  have hlt13 := numR_lt2 e5
  have hz := hc13.size
  have hC := hC.then hc13 (fun k hk e => by omega)
  have hS := hS.kept hc13 (fun g o h e => by have := hgl g o h; omega)
  have hG := hG.kept hc13 (fun e => by omega)
  have hB2 := hc13.at hB2 (fun e => by omega)
  have hBm := hc13.at hBm (fun e => by omega)
  refine WL.op (by decide) (R.move rfl) ?_  -- msg.go:247 t38 := (Op.move t4)
  refine WL.eff rfl (OP.call (by decide) Tryd.func45 (by kernel_rfl) (by kernel_rfl) rfl (num_st rb A m c bs 2 _ _ _ hR hS (by decide) (by decide) hin13 hm) ?_)
  rintro ed w14 ⟨c3, a6, b6, e6, rfl, hR, hc14⟩
  refine ⟨_, rfl, ?_⟩
  have hin14 := numR_in e6
  have hlt14 := numR_lt2 e6
  have hz := hc14.size
  have hC := hC.then hc14 (fun k hk e => by omega)
  have hS := hS.kept hc14 (fun g o h e => by have := hgl g o h; omega)
  have hG := hG.kept hc14 (fun e => by omega)
  have hB2 := hc14.at hB2 (fun e => by omega)
  have hBm := hc14.at hBm (fun e => by omega)
  refine WL.op (by decide) (R.build (parts := [(0, _), (1, _), (2, _), (3, _)]) (vals := [(0, _), (1, _), (2, _), (3, _)]) rfl (fun w => build102 _ _ _ _ w)) ?_  -- msg.go:247 t40 := (Op.build 102 [(0, t33), (1, t35), (2, t37), (3, t39)])
  have hH := hdr_of e1 e2 e3 e4 e5 e6
  refine WL.eff rfl (OP.alloc1 (.agg #[.int .i64 0, .int .i64 0, .int .i64 0, .int .i64 0]) (by decide) (by kernel_rfl) ?_)
  intro w15 hc15 hs15 hBc
  obtain ⟨cb, he_cb⟩ : ∃ b, b = w14.heap.size := ⟨_, rfl⟩
  rw [← he_cb] at hBc ⊢
  have hR := hc15.at hR (fun h => h)
  have hz := hc15.size
  have hC := hC.then hc15 (fun k hk e => e.elim)
  have hS := hS.kept hc15 (fun g o h e => e)
  have hG := hG.kept hc15 (fun e => e)
  have hB2 := hc15.at hB2 (fun e => e)
  have hBm := hc15.at hBm (fun e => e)
  refine WL.eff rfl (OP.storeAgg inf102.choose_spec.1 (by rw [inf102.choose_spec.2]; rfl) rfl rfl (c_all _ _ _ _) hBc rfl ?_)
  intro w16 hc16 hs16 hBc
  have hR := hc16.at hR (by omega)
  have hz := hc16.size
  have hC := hC.then hc16 (fun k hk e => by omega)
  have hS := hS.kept hc16 (fun g o h e => by have := hgl g o h; omega)
  have hG := hG.kept hc16 (fun e => by omega)
  have hB2 := hc16.at hB2 (fun e => by omega)
  have hBm := hc16.at hBm (fun e => by omega)
  refine WL.next ?_
  refine CW.seq ?_
  refine CW.rseq ?_  -- region 6
  refine WL.op (by decide) (R.move rfl) ?_  -- msg.go:248 t41 := (Op.move t6)
  refine WL.op (by decide) (R.andN (b := 30720) rfl rfl (by omega) (by decide)) ?_  -- msg.go:248 t42 := (Op.binOp BinOp.and 3 t41 c(Value.int IntKind.i64 30720) 3)
  refine WL.gtrS (by decide) rfl rfl (fun h1 => ?_) (fun h1 => ?_)  -- msg.go:248 t43 := (Op.binOp BinOp.gtr 3 t42 c(Value.int IntKind.i64 0) 3)
  · skip
    refine WL.op (by decide) (R.move rfl) ?_  -- msg.go:248 t44 := (Op.move t43)
    refine WL.pass (by decide) rfl rfl rfl ?_  -- msg.go:248 t45 := (Op.indexAddr 102 t7 c(Value.int IntKind.i64 0)) [guard 3 false]
    refine WL.pass (by decide) rfl rfl rfl ?_  -- msg.go:248 t46 := (Op.load 3 t45) [guard 3 false]
    refine WL.pass (by decide) rfl rfl rfl ?_  -- msg.go:248 t47 := (Op.binOp BinOp.neq 3 t46 c(Value.int IntKind.i64 1) 3) [guard 3 false]
    refine WL.op (by decide) (R.pickT rfl rfl) ?_  -- msg.go:248 t48 := (Op.pick t44 c(Value.bool true) t47)
    refine WL.op (by decide) (R.move rfl) ?_  -- msg.go:248 t49 := (Op.move t48)
    refine WL.pass (by decide) rfl rfl rfl ?_  -- msg.go:248 t50 := (Op.indexAddr 102 t7 c(Value.int IntKind.i64 1)) [guard 8 false]
    refine WL.pass (by decide) rfl rfl rfl ?_  -- msg.go:248 t51 := (Op.load 3 t50) [guard 8 false]
    refine WL.pass (by decide) rfl rfl rfl ?_  -- msg.go:248 t52 := (Op.indexAddr 102 t7 c(Value.int IntKind.i64 2)) [guard 8 false]
    refine WL.pass (by decide) rfl rfl rfl ?_  -- msg.go:248 t53 := (Op.load 3 t52) [guard 8 false]
    refine WL.pass (by decide) rfl rfl rfl ?_  -- msg.go:248 t54 := (Op.binOp BinOp.add 3 t51 t53 3) [guard 8 false]
    refine WL.pass (by decide) rfl rfl rfl ?_  -- msg.go:248 t55 := (Op.binOp BinOp.gtr 3 t54 c(Value.int IntKind.i64 32) 3) [guard 8 false]
    refine WL.op (by decide) (R.pickT rfl rfl) ?_  -- msg.go:248 t56 := (Op.pick t49 c(Value.bool true) t55)
    refine WL.next ?_
    refine CW.condT rfl ?_
    refine CW.rseq ?_  -- region 7
    refine WL.op (by decide) (R.build (parts := []) (vals := []) rfl (fun w => build33_0 w)) ?_  -- msg.go:249 t57 := (Op.build 33 [])
    refine WL.eff rfl (OP.storeAgg inf33.choose_spec.1 (by rw [inf33.choose_spec.2]; rfl) rfl rfl (m_all _ _ _ _ _ _ _) hB2 rfl ?_)
    intro w40 hc40 hs40 hB2
    have hC := hC.then hc40 (fun k hk e => by omega)
    refine WL.op (by decide) (R.assign rfl) ?_  -- msg.go:249 t3 := (Op.assign c(Value.int IntKind.i64 4))
    refine WL.next ?_
    refine CW.ret ?_
    refine EW.thenRet ?_
    have hd := dec_bad hH (by omega)
    exact EW.retCT (.inl rfl) rfl rfl rfl (cs := Msg.cells ⟨0, false, false, false, 0, [], 0, [], []⟩ (.slice none 0 0) (.slice none 0 0)) Tryd.underlying33 rfl sz33 (fun j u hj => cell_at hB2 (by rw [List.getElem?_toArray]; exact hj)) ⟨hC, by rw [hd]; rfl⟩
  · skip
    refine WL.op (by decide) (R.move rfl) ?_  -- msg.go:248 t44 := (Op.move t43)
    refine WL.gop (by decide) rfl rfl rfl (R.indexArr (i := 0) Tryd.underlying102 sz3 rfl rfl rfl (by decide)) ?_  -- msg.go:248 t45 := (Op.indexAddr 102 t7 c(Value.int IntKind.i64 0)) [guard 3 false]
    refine WL.gop (by decide) rfl rfl rfl (R.load Tryd.underlying3 rfl rfl (cell_at hBc rfl)) ?_  -- msg.go:248 t46 := (Op.load 3 t45) [guard 3 false]
    refine WL.gsplit _ (by decide) rfl rfl rfl (R.neqD rfl rfl) (fun h2 => ?_) (fun h2 => ?_)  -- msg.go:248 t47 := (Op.binOp BinOp.neq 3 t46 c(Value.int IntKind.i64 1) 3) [guard 3 false]
    · skip
      refine WL.op (by decide) (R.pickF rfl rfl) ?_  -- msg.go:248 t48 := (Op.pick t44 c(Value.bool true) t47)
      refine WL.op (by decide) (R.move rfl) ?_  -- msg.go:248 t49 := (Op.move t48)
      refine WL.pass (by decide) rfl rfl rfl ?_  -- msg.go:248 t50 := (Op.indexAddr 102 t7 c(Value.int IntKind.i64 1)) [guard 8 false]
      refine WL.pass (by decide) rfl rfl rfl ?_  -- msg.go:248 t51 := (Op.load 3 t50) [guard 8 false]
      refine WL.pass (by decide) rfl rfl rfl ?_  -- msg.go:248 t52 := (Op.indexAddr 102 t7 c(Value.int IntKind.i64 2)) [guard 8 false]
      refine WL.pass (by decide) rfl rfl rfl ?_  -- msg.go:248 t53 := (Op.load 3 t52) [guard 8 false]
      refine WL.pass (by decide) rfl rfl rfl ?_  -- msg.go:248 t54 := (Op.binOp BinOp.add 3 t51 t53 3) [guard 8 false]
      refine WL.pass (by decide) rfl rfl rfl ?_  -- msg.go:248 t55 := (Op.binOp BinOp.gtr 3 t54 c(Value.int IntKind.i64 32) 3) [guard 8 false]
      refine WL.op (by decide) (R.pickT rfl rfl) ?_  -- msg.go:248 t56 := (Op.pick t49 c(Value.bool true) t55)
      refine WL.next ?_
      refine CW.condT rfl ?_
      refine CW.rseq ?_  -- region 7
      refine WL.op (by decide) (R.build (parts := []) (vals := []) rfl (fun w => build33_0 w)) ?_  -- msg.go:249 t57 := (Op.build 33 [])
      refine WL.eff rfl (OP.storeAgg inf33.choose_spec.1 (by rw [inf33.choose_spec.2]; rfl) rfl rfl (m_all _ _ _ _ _ _ _) hB2 rfl ?_)
      intro w40 hc40 hs40 hB2
      have hC := hC.then hc40 (fun k hk e => by omega)
      refine WL.op (by decide) (R.assign rfl) ?_  -- msg.go:249 t3 := (Op.assign c(Value.int IntKind.i64 4))
      refine WL.next ?_
      refine CW.ret ?_
      refine EW.thenRet ?_
      have hd := dec_bad hH (by omega)
      exact EW.retCT (.inl rfl) rfl rfl rfl (cs := Msg.cells ⟨0, false, false, false, 0, [], 0, [], []⟩ (.slice none 0 0) (.slice none 0 0)) Tryd.underlying33 rfl sz33 (fun j u hj => cell_at hB2 (by rw [List.getElem?_toArray]; exact hj)) ⟨hC, by rw [hd]; rfl⟩
    · skip
      refine WL.op (by decide) (R.pickF rfl rfl) ?_  -- msg.go:248 t48 := (Op.pick t44 c(Value.bool true) t47)
      refine WL.op (by decide) (R.move rfl) ?_  -- msg.go:248 t49 := (Op.move t48)
      refine WL.gop (by decide) rfl rfl rfl (R.indexArr (i := 1) Tryd.underlying102 sz3 rfl rfl rfl (by decide)) ?_  -- msg.go:248 t50 := (Op.indexAddr 102 t7 c(Value.int IntKind.i64 1)) [guard 8 false]
      refine WL.gop (by decide) rfl rfl rfl (R.load Tryd.underlying3 rfl rfl (cell_at hBc rfl)) ?_  -- msg.go:248 t51 := (Op.load 3 t50) [guard 8 false]
      refine WL.gop (by decide) rfl rfl rfl (R.indexArr (i := 2) Tryd.underlying102 sz3 rfl rfl rfl (by decide)) ?_  -- msg.go:248 t52 := (Op.indexAddr 102 t7 c(Value.int IntKind.i64 2)) [guard 8 false]
      refine WL.gop (by decide) rfl rfl rfl (R.load Tryd.underlying3 rfl rfl (cell_at hBc rfl)) ?_  -- msg.go:248 t53 := (Op.load 3 t52) [guard 8 false]
      refine WL.gop (by decide) rfl rfl rfl (R.add rfl rfl (by omega)) ?_  -- msg.go:248 t54 := (Op.binOp BinOp.add 3 t51 t53 3) [guard 8 false]
      refine WL.gsplit _ (by decide) rfl rfl rfl (R.gtrD rfl rfl) (fun h3 => ?_) (fun h3 => ?_)  -- msg.go:248 t55 := (Op.binOp BinOp.gtr 3 t54 c(Value.int IntKind.i64 32) 3) [guard 8 false]
      · skip
        refine WL.op (by decide) (R.pickF rfl rfl) ?_  -- msg.go:248 t56 := (Op.pick t49 c(Value.bool true) t55)
        refine WL.next ?_
        refine CW.condT rfl ?_
        refine CW.rseq ?_  -- region 7
        refine WL.op (by decide) (R.build (parts := []) (vals := []) rfl (fun w => build33_0 w)) ?_  -- msg.go:249 t57 := (Op.build 33 [])
        refine WL.eff rfl (OP.storeAgg inf33.choose_spec.1 (by rw [inf33.choose_spec.2]; rfl) rfl rfl (m_all _ _ _ _ _ _ _) hB2 rfl ?_)
        intro w40 hc40 hs40 hB2
        have hC := hC.then hc40 (fun k hk e => by omega)
        refine WL.op (by decide) (R.assign rfl) ?_  -- msg.go:249 t3 := (Op.assign c(Value.int IntKind.i64 4))
        refine WL.next ?_
        refine CW.ret ?_
        refine EW.thenRet ?_
        have hd := dec_bad hH (by omega)
        exact EW.retCT (.inl rfl) rfl rfl rfl (cs := Msg.cells ⟨0, false, false, false, 0, [], 0, [], []⟩ (.slice none 0 0) (.slice none 0 0)) Tryd.underlying33 rfl sz33 (fun j u hj => cell_at hB2 (by rw [List.getElem?_toArray]; exact hj)) ⟨hC, by rw [hd]; rfl⟩
      · skip
        refine WL.op (by decide) (R.pickF rfl rfl) ?_  -- msg.go:248 t56 := (Op.pick t49 c(Value.bool true) t55)
        refine WL.next ?_
        refine CW.condF rfl ?_
        refine CW.skip ?_
        refine EW.next ?_
        refine CW.rseq ?_  -- region 8
        refine WL.op (by decide) (R.move rfl) ?_  -- msg.go:251 t58 := (Op.move t4)
        refine WL.eff rfl (OP.call (by decide) Tryd.func46 (by kernel_rfl) (by kernel_rfl) rfl (rname_st rb A m c bs a6 b6 _ hR hS (fun g o h => by have := hgl g o h; omega) hin14 hm) ?_)
        rintro ed w17 ⟨s, a7, b7, rfl, hR, hc17, h7, hsl0⟩
        refine ⟨_, rfl, ?_⟩
        have hin17 := nres_in h7
        have hz := hc17.size
        have hC := hC.then hc17 (fun k hk e => by omega)
        have hS := hS.kept hc17 (fun g o h e => by have := hgl g o h; omega)
        have hG := hG.kept hc17 (fun e => by omega)
        have hB2 := hc17.at hB2 (fun e => by omega)
        have hBm := hc17.at hBm (fun e => by omega)
        have hBc := hc17.at hBc (fun e => by omega)
        refine WL.op (by decide) (R.move rfl) ?_  -- msg.go:251 t60 := (Op.move t4)
        refine WL.eff rfl (OP.call (by decide) Tryd.func45 (by kernel_rfl) (by kernel_rfl) rfl (num_st rb A m c bs 2 _ _ _ hR hS (by decide) (by decide) hin17 hm) ?_)
        rintro ed w18 ⟨v8, a8, b8, e8, rfl, hR, hc18⟩
        refine ⟨_, rfl, ?_⟩
        have hin18 := numR_in e8
        have hlt18 := numR_lt2 e8
        have hz := hc18.size
        have hC := hC.then hc18 (fun k hk e => by omega)
        have hS := hS.kept hc18 (fun g o h e => by have := hgl g o h; omega)
        have hG := hG.kept hc18 (fun e => by omega)
        have hB2 := hc18.at hB2 (fun e => by omega)
        have hBm := hc18.at hBm (fun e => by omega)
        have hBc := hc18.at hBc (fun e => by omega)
        refine WL.op (by decide) (R.build (parts := [(0, _), (1, _)]) (vals := [(0, _), (1, _)]) rfl (fun w => build25_2 _ _ w)) ?_  -- msg.go:251 t62 := (Op.build 25 [(0, t59), (1, t61)])
        refine WL.op (by decide) (FA33_5 rfl) ?_  -- msg.go:251 t63 := (Op.fieldAddr 33 t5 5)
        refine WL.eff rfl (OP.storeAt (s := 2) sz25 rfl rfl rfl (q_all _ _) hBm (Nat.le_of_ble_eq_true rfl) ?_)
        intro w19 hc19 hs19 hBmn
        have hBm : w19.heap[mb]? = some (.cells (Msg.cells ⟨(vi : Int), decide (0 < vf &&& 32768), decide (0 < vf &&& 512), decide (0 < vf &&& 256), ((vf &&& 15 : Nat) : Int), s, v8, [], []⟩ (.slice none 0 0) (.slice none 0 0)).toArray 33 (0, 0)) := hBmn
        have hR := hc19.at hR (by omega)
        have hz := hc19.size
        have hC := hC.then hc19 (fun k hk e => by omega)
        have hS := hS.kept hc19 (fun g o h e => by have := hgl g o h; omega)
        have hG := hG.kept hc19 (fun e => by omega)
        have hB2 := hc19.at hB2 (fun e => by omega)
        have hBc := hc19.at hBc (fun e => by omega)
        refine WL.next ?_
        refine CW.cut (fun l wr => ∃ (v9 a9 : Nat) (b9 b10 : Bool), numR bs 2 a8 b8 = (v9, a9, b9) ∧ In bs a9 b9 ∧ b10 = (b9 || decide (v9 ≠ 1)) ∧ l = [(2, .pointer (some ⟨br, 0, none⟩)), (3, .int .i64 0), (4, .pointer (some ⟨rb, 0, none⟩)), (5, .pointer (some ⟨mb, 0, none⟩)), (7, .pointer (some ⟨cb, 0, none⟩))] ∧ RSt wr rb A m c a9 b10 ∧ Chg (fun _ => False) w wr ∧ Src wr A m c bs ∧ Glob wr ∧ cb < wr.heap.size ∧ wr.heap[br]? = some (.cells (Msg.cells ⟨0, false, false, false, 0, [], 0, [], []⟩ (.slice none 0 0) (.slice none 0 0)).toArray 33 (0, 0)) ∧ wr.heap[mb]? = some (.cells (Msg.cells ⟨(vi : Int), decide (0 < vf &&& 32768), decide (0 < vf &&& 512), decide (0 < vf &&& 256), ((vf &&& 15 : Nat) : Int), s, v8, [], []⟩ (.slice none 0 0) (.slice none 0 0)).toArray 33 (0, 0)) ∧ wr.heap[cb]? = some (.cells #[.int .i64 (c0 : Nat), .int .i64 (c1 : Nat), .int .i64 (c2 : Nat), .int .i64 (c3 : Nat)] 102 (0, 0))) ?_ ?_
        · -- the cut part
          refine CW.rseq ?_  -- region 9
          refine WL.op (by decide) (R.move rfl) ?_  -- msg.go:252 t64 := (Op.move t4)
          refine WL.eff rfl (OP.call (by decide) Tryd.func45 (by kernel_rfl) (by kernel_rfl) rfl (num_st rb A m c bs 2 _ _ _ hR hS (by decide) (by decide) hin18 hm) ?_)
          rintro ed w20 ⟨v9, a9, b9, e9, rfl, hR, hc20⟩
          refine ⟨_, rfl, ?_⟩
          have hin20 := numR_in e9
          have hlt20 := numR_lt2 e9
          have hz := hc20.size
          have hC := hC.then hc20 (fun k hk e => by omega)
          have hS := hS.kept hc20 (fun g o h e => by have := hgl g o h; omega)
          have hG := hG.kept hc20 (fun e => by omega)
          have hB2 := hc20.at hB2 (fun e => by omega)
          have hBm := hc20.at hBm (fun e => by omega)
          have hBc := hc20.at hBc (fun e => by omega)
          refine WL.op (by decide) (R.assign rfl) ?_  -- msg.go:252 t8 := (Op.assign t65)
          refine WL.next ?_
          refine CW.rseq ?_  -- region 10
          refine WL.op (by decide) (R.move rfl) ?_  -- msg.go:252 t66 := (Op.move t8)
          refine WL.neqS (by decide) rfl rfl (fun h4 => ?_) (fun h4 => ?_)  -- msg.go:252 t67 := (Op.binOp BinOp.neq 3 t66 c(Value.int IntKind.i64 1) 3)
          · skip
            refine WL.next ?_
            refine CW.condT rfl ?_
            refine CW.region ?_  -- region 11
            refine WL.op (by decide) (R.move rfl) ?_  -- msg.go:253 t68 := (Op.move t4)
            refine WL.op (by decide) (R.nilCheck rfl) ?_  -- msg.go:253 t69 := (Op.nilCheck t68)
            refine WL.op (by decide) (FA100_2 rfl) ?_  -- msg.go:253 t70 := (Op.fieldAddr 100 t69 2)
            refine WL.eff rfl (OP.store1 sz4 rfl rfl rfl rfl hR (Nat.le_of_ble_eq_true rfl) rfl ?_)
            intro w21 hc21 hs21 hR
            have hz := hc21.size
            have hC := hC.then hc21 (fun k hk e => by omega)
            have hS := hS.kept hc21 (fun g o h e => by have := hgl g o h; omega)
            have hG := hG.kept hc21 (fun e => by omega)
            have hB2 := hc21.at hB2 (fun e => by omega)
            have hBm := hc21.at hBm (fun e => by omega)
            have hBc := hc21.at hBc (fun e => by omega)
            refine WL.nil ?_
            exact EW.cutK [2, 3, 4, 5, 7] ⟨v9, a9, b9, _, e9, hin20, cls_no (by omega), rfl, hR, hC, hS, hG, by omega, hB2, hBm, hBc⟩
          · skip
            refine WL.next ?_
            refine CW.condF rfl ?_
            refine CW.skip ?_
            exact EW.cutK [2, 3, 4, 5, 7] ⟨v9, a9, b9, _, e9, hin20, cls_yes (by omega), rfl, hR, hC, hS, hG, by omega, hB2, hBm, hBc⟩
        · rintro l wr0 ⟨v9, a9, b9, b10, e9, hin20, hb10, rfl, hR, hC, hS, hG, hcbs, hB2, hBm, hBc⟩
          have hdec := dec_eq hH (by omega) (by omega) (by omega) h7 e8 e9
          rw [← hb10] at hdec
          have hin : In bs a9 b10 := in_or hb10 hin20
          refine CW.seq ?_
          refine CW.rseq ?_  -- region 12
          refine WL.op (by decide) (R.indexArr (i := 1) Tryd.underlying102 sz3 rfl rfl rfl (by decide)) ?_  -- msg.go:255 t71 := (Op.indexAddr 102 t7 c(Value.int IntKind.i64 1))
          refine WL.op (by decide) (R.load Tryd.underlying3 rfl rfl (cell_at hBc rfl)) ?_  -- msg.go:255 t72 := (Op.load 3 t71)
          refine WL.op (by decide) (R.move rfl) ?_  -- msg.go:255 t73 := (Op.move c(Value.int IntKind.i64 0))
          refine WL.next ?_
          refine CW.block ?_
          obtain ⟨B1, he_B1⟩ : ∃ b, b = wr0.heap.size := ⟨_, rfl⟩
          refine CW.loopK [2, 3, 4, 5, 7, 72, 73] (fun k l wr => ∃ (i : Nat) (ii : Int) (v : Value) (q : List Rec) (a' : Nat) (b' : Bool), i + k = c1 ∧ ii = (i : Int) ∧ l = [(2, .pointer (some ⟨br, 0, none⟩)), (3, .int .i64 0), (4, .pointer (some ⟨rb, 0, none⟩)), (5, .pointer (some ⟨mb, 0, none⟩)), (7, .pointer (some ⟨cb, 0, none⟩)), (72, .int .i64 (c1 : Nat)), (73, .int .i64 ii)] ∧ RSt wr rb A m c a' b' ∧ In bs a' b' ∧ Chg (fun _ => False) w wr ∧ Src wr A m c bs ∧ Glob wr ∧ B1 ≤ wr.heap.size ∧ wr.heap[br]? = some (.cells (Msg.cells ⟨0, false, false, false, 0, [], 0, [], []⟩ (.slice none 0 0) (.slice none 0 0)).toArray 33 (0, 0)) ∧ wr.heap[mb]? = some (.cells (Msg.cells ⟨(vi : Int), decide (0 < vf &&& 32768), decide (0 < vf &&& 512), decide (0 < vf &&& 256), ((vf &&& 15 : Nat) : Int), s, v8, [], []⟩ v (.slice none 0 0)).toArray 33 (0, 0)) ∧ wr.heap[cb]? = some (.cells #[.int .i64 (c0 : Nat), .int .i64 (c1 : Nat), .int .i64 (c2 : Nat), .int .i64 (c3 : Nat)] 102 (0, 0)) ∧ RBuf wr B1 v q ∧ q.length = i ∧ (∀ r ∈ q, r.small) ∧ recsSt bs c1 a9 b10 [] = recsSt bs k a' b' q) (c1) ?_ ?_
          · exact ⟨0, 0, _, [], _, _, by omega, rfl, rfl, hR, hin, hC, hS, hG, by omega, hB2, hBm, hBc, RBuf.nil _ _, rfl, (fun _ h => by cases h), rfl⟩
          · rintro k l wr1 ⟨i1, ii, v, rs, a1', b1', hik, rfl, rfl, hR, hin, hC, hS, hG, hBs, hB2, hBm, hBc, hRB, hql, hqs, heq⟩
            refine CW.rseq ?_  -- region 13
            refine WL.lssS (by decide) rfl rfl (fun h5 => ?_) (fun h5 => ?_)  -- msg.go:255 t74 := (Op.binOp BinOp.lss 3 t73 t72 3)
            · skip
              refine WL.next ?_
              refine CW.seq ?_
              refine CW.condT rfl ?_
              refine CW.skip ?_
              refine EW.next ?_
              refine CW.seq ?_
              refine CW.block ?_
              refine CW.draw (fun _ => True) (by kernel_rfl) ?_
              have hC := hC.trans (Chg.drew _ _)
              have hS := hS.kept (Chg.drew (fun _ => False) _) (fun _ _ _ h => h)
              have hG := hG.kept (Chg.drew (fun _ => False) _) (fun h => h)
              have hBs := Nat.le_trans hBs (Chg.drew (fun _ => False) _).size
              have hRB := hRB.kept (Chg.drew (fun _ => False) _) (fun _ _ h => h)
              refine AH.take 0 rfl (by kernel_rfl) (by kernel_rfl) (by kernel_rfl) (fun _ _ _ _ h => h) trivial (by decide) (fun w hS => FA33_6 rfl) ?_  -- msg.go:256 t75 := (Op.fieldAddr 33 t5 6)
              refine AH.take 2 rfl (by kernel_rfl) (by kernel_rfl) (by kernel_rfl) (fun _ _ _ _ h => h) trivial (by decide) (fun w hS => R.move rfl) ?_  -- msg.go:256 t77 := (Op.move t4)
              refine AH.either 1 3 (by kernel_rfl) rfl rfl rfl rfl ?_ ?_
              · skip
                refine (OP.val (by decide) (R.load Tryd.underlying31 rfl rfl (cell_at hBm rfl)) ?_)
                refine ⟨trivial, ?_⟩
                refine AH.eff 3 (by kernel_rfl) rfl rfl (OP.call (by decide) Tryd.func47 (by kernel_rfl) (by kernel_rfl) rfl (rrec_any rb A m c bs a1' b1' _ hR hS (fun g o h => by have := hgl g o h; have := hC.size; omega) hin hm hG (by omega)) ?_)
                rintro ed w20 ⟨r, ar, br2, rfl, hr16, hR, hc20, hres, hin2, hsm⟩
                refine ⟨_, rfl, trivial, ?_⟩
                have hz := hc20.size
                have hC := hC.then hc20 (fun k hk e => by omega)
                have hS := hS.kept hc20 (fun g o h e => by have := hgl g o h; omega)
                have hG := hG.kept hc20 (fun e => by omega)
                have hB2 := hc20.at hB2 (fun e => by omega)
                have hBm := hc20.at hBm (fun e => by omega)
                have hBc := hc20.at hBc (fun e => by omega)
                have hRB := hRB.kept hc20 (fun _ hk e => by have := hRB.lt _ hk; omega)
                refine AH.eff 4 (by kernel_rfl) rfl rfl (OP.buildSliceR (by decide) rfl hr16 ?_)
                intro w21 hc21 hs21 hb21
                refine ⟨trivial, ?_⟩
                have hR := hc21.at hR (fun e => e)
                have hz := hc21.size
                have hC := hC.then hc21 (fun k hk e => e.elim)
                have hS := hS.kept hc21 (fun g o h e => e)
                have hG := hG.kept hc21 (fun e => e)
                have hB2 := hc21.at hB2 (fun e => e)
                have hBm := hc21.at hBm (fun e => e)
                have hBc := hc21.at hBc (fun e => e)
                have hRB := hRB.kept hc21 (fun _ hk e => by have := hRB.lt _ hk; exact e)
                refine AH.eff 5 (by kernel_rfl) rfl rfl (OP.appendR (by decide) rfl rfl hRB hr16 hb21 (by omega) (by omega) ?_)
                intro v2 w22 hRBn hMv
                refine ⟨trivial, ?_⟩
                have hc22 := Chg.moved hMv
                have hR := hc22.at hR (fun e => by have := hRB.lt _ e.symm; omega)
                have hz := hc22.size
                have hC := hC.then hc22 (fun k hk e => by have := hRB.lt _ e.symm; omega)
                have hS := hS.kept hc22 (fun g o h e => by have := hgl g o h; have := hRB.lt _ e.symm; omega)
                have hG := hG.kept hc22 (fun e => by have := hRB.lt _ e.symm; omega)
                have hB2 := hc22.at hB2 (fun e => by have := hRB.lt _ e.symm; omega)
                have hBm := hc22.at hBm (fun e => by have := hRB.lt _ e.symm; omega)
                have hBc := hc22.at hBc (fun e => by have := hRB.lt _ e.symm; omega)
                have hRB := hRBn
                clear hRBn
                obtain ⟨A2, cc2, rfl, _⟩ := hRB.sl.form
                refine AH.eff 6 (by kernel_rfl) rfl rfl (OP.val (by decide) (FA33_6 rfl) ?_)
                refine ⟨trivial, ?_⟩
                refine AH.eff 7 (by kernel_rfl) rfl rfl (OP.store1 sz31 rfl rfl rfl rfl hBm (Nat.le_of_ble_eq_true rfl) rfl ?_)
                intro w23 hc23 hs23 hBmn
                refine ⟨trivial, ?_⟩
                have hR := hc23.at hR (by omega)
                have hz := hc23.size
                have hC := hC.then hc23 (fun k hk e => by omega)
                have hS := hS.kept hc23 (fun g o h e => by have := hgl g o h; omega)
                have hG := hG.kept hc23 (fun e => by omega)
                have hB2 := hc23.at hB2 (fun e => by omega)
                have hBc := hc23.at hBc (fun e => by omega)
                have hRB := hRB.kept hc23 (fun _ hk e => by have := hRB.lt _ hk; omega)
                have hBm : w23.heap[mb]? = some (.cells (Msg.cells ⟨(vi : Int), decide (0 < vf &&& 32768), decide (0 < vf &&& 512), decide (0 < vf &&& 256), ((vf &&& 15 : Nat) : Int), s, v8, [], []⟩ (.slice A2 (rs ++ [r]).length cc2) (.slice none 0 0)).toArray 33 (0, 0)) := hBmn
                refine AH.done (by kernel_rfl) ?_
                refine EW.inNormal ?_
                refine EW.next ?_
                refine CW.region ?_  -- region 15
                refine WL.op (by decide) (R.add rfl rfl (by omega)) ?_  -- msg.go:255 t82 := (Op.binOp BinOp.add 3 t73 c(Value.int IntKind.i64 1) 3)
                refine WL.op (by decide) (R.move rfl) ?_  -- msg.go:255 t73 := (Op.move t82)
                refine WL.nil ?_
                obtain ⟨k2, rfl⟩ : ∃ k2, k = k2 + 1 := ⟨k - 1, by omega⟩
                exact EW.roundK [2, 3, 4, 5, 7, 72, 73] k2 (by omega) ⟨i1 + 1, _, _, rs ++ [r], ar, br2, by omega, by omega, rfl, hR, hin2, hC, hS, hG, by omega, hB2, hBm, hBc, hRB, by rw [List.length_append, hql]; rfl, small_snoc hqs hsm, by rw [heq, recs_step hres]⟩
              · skip
                refine (OP.call (by decide) Tryd.func47 (by kernel_rfl) (by kernel_rfl) rfl (rrec_any rb A m c bs a1' b1' _ hR hS (fun g o h => by have := hgl g o h; have := hC.size; omega) hin hm hG (by omega)) ?_)
                rintro ed w20 ⟨r, ar, br2, rfl, hr16, hR, hc20, hres, hin2, hsm⟩
                refine ⟨_, rfl, trivial, ?_⟩
                have hz := hc20.size
                have hC := hC.then hc20 (fun k hk e => by omega)
                have hS := hS.kept hc20 (fun g o h e => by have := hgl g o h; omega)
                have hG := hG.kept hc20 (fun e => by omega)
                have hB2 := hc20.at hB2 (fun e => by omega)
                have hBm := hc20.at hBm (fun e => by omega)
                have hBc := hc20.at hBc (fun e => by omega)
                have hRB := hRB.kept hc20 (fun _ hk e => by have := hRB.lt _ hk; omega)
                refine AH.either 1 4 (by kernel_rfl) rfl rfl rfl rfl ?_ ?_
                · skip
                  refine (OP.val (by decide) (R.load Tryd.underlying31 rfl rfl (cell_at hBm rfl)) ?_)
                  refine ⟨trivial, ?_⟩
                  refine AH.eff 4 (by kernel_rfl) rfl rfl (OP.buildSliceR (by decide) rfl hr16 ?_)
                  intro w21 hc21 hs21 hb21
                  refine ⟨trivial, ?_⟩
                  have hR := hc21.at hR (fun e => e)
                  have hz := hc21.size
                  have hC := hC.then hc21 (fun k hk e => e.elim)
                  have hS := hS.kept hc21 (fun g o h e => e)
                  have hG := hG.kept hc21 (fun e => e)
                  have hB2 := hc21.at hB2 (fun e => e)
                  have hBm := hc21.at hBm (fun e => e)
                  have hBc := hc21.at hBc (fun e => e)
                  have hRB := hRB.kept hc21 (fun _ hk e => by have := hRB.lt _ hk; exact e)
                  refine AH.eff 5 (by kernel_rfl) rfl rfl (OP.appendR (by decide) rfl rfl hRB hr16 hb21 (by omega) (by omega) ?_)
                  intro v2 w22 hRBn hMv
                  refine ⟨trivial, ?_⟩
                  have hc22 := Chg.moved hMv
                  have hR := hc22.at hR (fun e => by have := hRB.lt _ e.symm; omega)
                  have hz := hc22.size
                  have hC := hC.then hc22 (fun k hk e => by have := hRB.lt _ e.symm; omega)
                  have hS := hS.kept hc22 (fun g o h e => by have := hgl g o h; have := hRB.lt _ e.symm; omega)
                  have hG := hG.kept hc22 (fun e => by have := hRB.lt _ e.symm; omega)
                  have hB2 := hc22.at hB2 (fun e => by have := hRB.lt _ e.symm; omega)
                  have hBm := hc22.at hBm (fun e => by have := hRB.lt _ e.symm; omega)
                  have hBc := hc22.at hBc (fun e => by have := hRB.lt _ e.symm; omega)
                  have hRB := hRBn
                  clear hRBn
                  obtain ⟨A2, cc2, rfl, _⟩ := hRB.sl.form
                  refine AH.eff 6 (by kernel_rfl) rfl rfl (OP.val (by decide) (FA33_6 rfl) ?_)
                  refine ⟨trivial, ?_⟩
                  refine AH.eff 7 (by kernel_rfl) rfl rfl (OP.store1 sz31 rfl rfl rfl rfl hBm (Nat.le_of_ble_eq_true rfl) rfl ?_)
                  intro w23 hc23 hs23 hBmn
                  refine ⟨trivial, ?_⟩
                  have hR := hc23.at hR (by omega)
                  have hz := hc23.size
                  have hC := hC.then hc23 (fun k hk e => by omega)
                  have hS := hS.kept hc23 (fun g o h e => by have := hgl g o h; omega)
                  have hG := hG.kept hc23 (fun e => by omega)
                  have hB2 := hc23.at hB2 (fun e => by omega)
                  have hBc := hc23.at hBc (fun e => by omega)
                  have hRB := hRB.kept hc23 (fun _ hk e => by have := hRB.lt _ hk; omega)
                  have hBm : w23.heap[mb]? = some (.cells (Msg.cells ⟨(vi : Int), decide (0 < vf &&& 32768), decide (0 < vf &&& 512), decide (0 < vf &&& 256), ((vf &&& 15 : Nat) : Int), s, v8, [], []⟩ (.slice A2 (rs ++ [r]).length cc2) (.slice none 0 0)).toArray 33 (0, 0)) := hBmn
                  refine AH.done (by kernel_rfl) ?_
                  refine EW.inNormal ?_
                  refine EW.next ?_
                  refine CW.region ?_  -- region 15
                  refine WL.op (by decide) (R.add rfl rfl (by omega)) ?_  -- msg.go:255 t82 := (Op.binOp BinOp.add 3 t73 c(Value.int IntKind.i64 1) 3)
                  refine WL.op (by decide) (R.move rfl) ?_  -- msg.go:255 t73 := (Op.move t82)
                  refine WL.nil ?_
                  obtain ⟨k2, rfl⟩ : ∃ k2, k = k2 + 1 := ⟨k - 1, by omega⟩
                  exact EW.roundK [2, 3, 4, 5, 7, 72, 73] k2 (by omega) ⟨i1 + 1, _, _, rs ++ [r], ar, br2, by omega, by omega, rfl, hR, hin2, hC, hS, hG, by omega, hB2, hBm, hBc, hRB, by rw [List.length_append, hql]; rfl, small_snoc hqs hsm, by rw [heq, recs_step hres]⟩
                · skip
                  refine (OP.buildSliceR (by decide) rfl hr16 ?_)
                  intro w21 hc21 hs21 hb21
                  refine ⟨trivial, ?_⟩
                  have hR := hc21.at hR (fun e => e)
                  have hz := hc21.size
                  have hC := hC.then hc21 (fun k hk e => e.elim)
                  have hS := hS.kept hc21 (fun g o h e => e)
                  have hG := hG.kept hc21 (fun e => e)
                  have hB2 := hc21.at hB2 (fun e => e)
                  have hBm := hc21.at hBm (fun e => e)
                  have hBc := hc21.at hBc (fun e => e)
                  have hRB := hRB.kept hc21 (fun _ hk e => by have := hRB.lt _ hk; exact e)
                  refine AH.eff 1 (by kernel_rfl) rfl rfl (OP.val (by decide) (R.load Tryd.underlying31 rfl rfl (cell_at hBm rfl)) ?_)
                  refine ⟨trivial, ?_⟩
                  refine AH.eff 5 (by kernel_rfl) rfl rfl (OP.appendR (by decide) rfl rfl hRB hr16 hb21 (by omega) (by omega) ?_)
                  intro v2 w22 hRBn hMv
                  refine ⟨trivial, ?_⟩
                  have hc22 := Chg.moved hMv
                  have hR := hc22.at hR (fun e => by have := hRB.lt _ e.symm; omega)
                  have hz := hc22.size
                  have hC := hC.then hc22 (fun k hk e => by have := hRB.lt _ e.symm; omega)
                  have hS := hS.kept hc22 (fun g o h e => by have := hgl g o h; have := hRB.lt _ e.symm; omega)
                  have hG := hG.kept hc22 (fun e => by have := hRB.lt _ e.symm; omega)
                  have hB2 := hc22.at hB2 (fun e => by have := hRB.lt _ e.symm; omega)
                  have hBm := hc22.at hBm (fun e => by have := hRB.lt _ e.symm; omega)
                  have hBc := hc22.at hBc (fun e => by have := hRB.lt _ e.symm; omega)
                  have hRB := hRBn
                  clear hRBn
                  obtain ⟨A2, cc2, rfl, _⟩ := hRB.sl.form
                  refine AH.eff 6 (by kernel_rfl) rfl rfl (OP.val (by decide) (FA33_6 rfl) ?_)
                  refine ⟨trivial, ?_⟩
                  refine AH.eff 7 (by kernel_rfl) rfl rfl (OP.store1 sz31 rfl rfl rfl rfl hBm (Nat.le_of_ble_eq_true rfl) rfl ?_)
                  intro w23 hc23 hs23 hBmn
                  refine ⟨trivial, ?_⟩
                  have hR := hc23.at hR (by omega)
                  have hz := hc23.size
                  have hC := hC.then hc23 (fun k hk e => by omega)
                  have hS := hS.kept hc23 (fun g o h e => by have := hgl g o h; omega)
                  have hG := hG.kept hc23 (fun e => by omega)
                  have hB2 := hc23.at hB2 (fun e => by omega)
                  have hBc := hc23.at hBc (fun e => by omega)
                  have hRB := hRB.kept hc23 (fun _ hk e => by have := hRB.lt _ hk; omega)
                  have hBm : w23.heap[mb]? = some (.cells (Msg.cells ⟨(vi : Int), decide (0 < vf &&& 32768), decide (0 < vf &&& 512), decide (0 < vf &&& 256), ((vf &&& 15 : Nat) : Int), s, v8, [], []⟩ (.slice A2 (rs ++ [r]).length cc2) (.slice none 0 0)).toArray 33 (0, 0)) := hBmn
                  refine AH.done (by kernel_rfl) ?_
                  refine EW.inNormal ?_
                  refine EW.next ?_
                  refine CW.region ?_  -- region 15
                  refine WL.op (by decide) (R.add rfl rfl (by omega)) ?_  -- msg.go:255 t82 := (Op.binOp BinOp.add 3 t73 c(Value.int IntKind.i64 1) 3)
                  refine WL.op (by decide) (R.move rfl) ?_  -- msg.go:255 t73 := (Op.move t82)
                  refine WL.nil ?_
                  obtain ⟨k2, rfl⟩ : ∃ k2, k = k2 + 1 := ⟨k - 1, by omega⟩
                  exact EW.roundK [2, 3, 4, 5, 7, 72, 73] k2 (by omega) ⟨i1 + 1, _, _, rs ++ [r], ar, br2, by omega, by omega, rfl, hR, hin2, hC, hS, hG, by omega, hB2, hBm, hBc, hRB, by rw [List.length_append, hql]; rfl, small_snoc hqs hsm, by rw [heq, recs_step hres]⟩
            · skip
              refine WL.next ?_
              refine CW.seq ?_
              refine CW.condF rfl ?_
              refine CW.exit ?_
              obtain rfl : k = 0 := by omega
              rw [recs_zero] at heq
              have hRA := hRB.sl
              have hRAlt := hRB.lt
              obtain ⟨Aa, ca, rfl, _⟩ := hRA.form
              have hqsA := hqs
              obtain ⟨B2, he_B2⟩ : ∃ b, b = wr1.heap.size := ⟨_, rfl⟩
              refine EW.thenExit ?_
              refine EW.thenExit ?_
              refine EW.inHere ?_
              refine EW.next ?_
              refine CW.seq ?_
              refine CW.rseq ?_  -- region 16
              refine WL.op (by decide) (R.indexArr (i := 2) Tryd.underlying102 sz3 rfl rfl rfl (by decide)) ?_  -- msg.go:258 t83 := (Op.indexAddr 102 t7 c(Value.int IntKind.i64 2))
              refine WL.op (by decide) (R.load Tryd.underlying3 rfl rfl (cell_at hBc rfl)) ?_  -- msg.go:258 t84 := (Op.load 3 t83)
              refine WL.op (by decide) (R.move rfl) ?_  -- msg.go:258 t85 := (Op.move c(Value.int IntKind.i64 0))
              refine WL.next ?_
              refine CW.block ?_
              refine CW.loopK [2, 3, 4, 5, 7, 84, 85] (fun k l wr => ∃ (i : Nat) (ii : Int) (v : Value) (q : List Rec) (a' : Nat) (b' : Bool), i + k = c2 ∧ ii = (i : Int) ∧ l = [(2, .pointer (some ⟨br, 0, none⟩)), (3, .int .i64 0), (4, .pointer (some ⟨rb, 0, none⟩)), (5, .pointer (some ⟨mb, 0, none⟩)), (7, .pointer (some ⟨cb, 0, none⟩)), (84, .int .i64 (c2 : Nat)), (85, .int .i64 ii)] ∧ RSt wr rb A m c a' b' ∧ In bs a' b' ∧ Chg (fun _ => False) w wr ∧ Src wr A m c bs ∧ Glob wr ∧ B2 ≤ wr.heap.size ∧ wr.heap[br]? = some (.cells (Msg.cells ⟨0, false, false, false, 0, [], 0, [], []⟩ (.slice none 0 0) (.slice none 0 0)).toArray 33 (0, 0)) ∧ wr.heap[mb]? = some (.cells (Msg.cells ⟨(vi : Int), decide (0 < vf &&& 32768), decide (0 < vf &&& 512), decide (0 < vf &&& 256), ((vf &&& 15 : Nat) : Int), s, v8, [], []⟩ (.slice Aa rs.length ca) v).toArray 33 (0, 0)) ∧ wr.heap[cb]? = some (.cells #[.int .i64 (c0 : Nat), .int .i64 (c1 : Nat), .int .i64 (c2 : Nat), .int .i64 (c3 : Nat)] 102 (0, 0)) ∧ RBuf wr B2 v q ∧ q.length = i ∧ (∀ r ∈ q, r.small) ∧ recsSt bs c2 a1' b1' [] = recsSt bs k a' b' q ∧ RSl wr (.slice Aa rs.length ca) rs) (c2) ?_ ?_
              · exact ⟨0, 0, _, [], _, _, by omega, rfl, rfl, hR, hin, hC, hS, hG, by omega, hB2, hBm, hBc, RBuf.nil _ _, rfl, (fun _ h => by cases h), rfl, hRA⟩
              · rintro kk l wr2 ⟨i2, ii, v, rs2, a2', b2', hik, rfl, rfl, hR, hin, hC, hS, hG, hBs, hB2, hBm, hBc, hRB, hql, hqs, heq2, hRA⟩
                refine CW.rseq ?_  -- region 17
                refine WL.lssS (by decide) rfl rfl (fun h6 => ?_) (fun h6 => ?_)  -- msg.go:258 t86 := (Op.binOp BinOp.lss 3 t85 t84 3)
                · skip
                  refine WL.next ?_
                  refine CW.seq ?_
                  refine CW.condT rfl ?_
                  refine CW.skip ?_
                  refine EW.next ?_
                  refine CW.seq ?_
                  refine CW.block ?_
                  refine CW.draw (fun _ => True) (by kernel_rfl) ?_
                  have hC := hC.trans (Chg.drew _ _)
                  have hS := hS.kept (Chg.drew (fun _ => False) _) (fun _ _ _ h => h)
                  have hG := hG.kept (Chg.drew (fun _ => False) _) (fun h => h)
                  have hBs := Nat.le_trans hBs (Chg.drew (fun _ => False) _).size
                  have hRB := hRB.kept (Chg.drew (fun _ => False) _) (fun _ _ h => h)
                  have hRA := hRA.kept (Chg.drew (fun _ => False) _) (fun _ _ h => h)
                  refine AH.take 0 rfl (by kernel_rfl) (by kernel_rfl) (by kernel_rfl) (fun _ _ _ _ h => h) trivial (by decide) (fun w hS => FA33_7 rfl) ?_  -- msg.go:259 t87 := (Op.fieldAddr 33 t5 7)
                  refine AH.take 2 rfl (by kernel_rfl) (by kernel_rfl) (by kernel_rfl) (fun _ _ _ _ h => h) trivial (by decide) (fun w hS => R.move rfl) ?_  -- msg.go:259 t89 := (Op.move t4)
                  refine AH.either 1 3 (by kernel_rfl) rfl rfl rfl rfl ?_ ?_
                  · skip
                    refine (OP.val (by decide) (R.load Tryd.underlying31 rfl rfl (cell_at hBm rfl)) ?_)
                    refine ⟨trivial, ?_⟩
                    refine AH.eff 3 (by kernel_rfl) rfl rfl (OP.call (by decide) Tryd.func47 (by kernel_rfl) (by kernel_rfl) rfl (rrec_any rb A m c bs a2' b2' _ hR hS (fun g o h => by have := hgl g o h; have := hC.size; omega) hin hm hG (by omega)) ?_)
                    rintro ed w20 ⟨r, ar, br2, rfl, hr16, hR, hc20, hres, hin2, hsm⟩
                    refine ⟨_, rfl, trivial, ?_⟩
                    have hz := hc20.size
                    have hC := hC.then hc20 (fun k hk e => by omega)
                    have hS := hS.kept hc20 (fun g o h e => by have := hgl g o h; omega)
                    have hG := hG.kept hc20 (fun e => by omega)
                    have hB2 := hc20.at hB2 (fun e => by omega)
                    have hBm := hc20.at hBm (fun e => by omega)
                    have hBc := hc20.at hBc (fun e => by omega)
                    have hRB := hRB.kept hc20 (fun _ hk e => by have := hRB.lt _ hk; omega)
                    have hRA := hRA.kept hc20 (fun _ hk e => by have := hRAlt _ hk; omega)
                    refine AH.eff 4 (by kernel_rfl) rfl rfl (OP.buildSliceR (by decide) rfl hr16 ?_)
                    intro w21 hc21 hs21 hb21
                    refine ⟨trivial, ?_⟩
                    have hR := hc21.at hR (fun e => e)
                    have hz := hc21.size
                    have hC := hC.then hc21 (fun k hk e => e.elim)
                    have hS := hS.kept hc21 (fun g o h e => e)
                    have hG := hG.kept hc21 (fun e => e)
                    have hB2 := hc21.at hB2 (fun e => e)
                    have hBm := hc21.at hBm (fun e => e)
                    have hBc := hc21.at hBc (fun e => e)
                    have hRB := hRB.kept hc21 (fun _ hk e => by have := hRB.lt _ hk; exact e)
                    have hRA := hRA.kept hc21 (fun _ hk e => by have := hRAlt _ hk; exact e)
                    refine AH.eff 5 (by kernel_rfl) rfl rfl (OP.appendR (by decide) rfl rfl hRB hr16 hb21 (by omega) (by omega) ?_)
                    intro v2 w22 hRBn hMv
                    refine ⟨trivial, ?_⟩
                    have hc22 := Chg.moved hMv
                    have hR := hc22.at hR (fun e => by have := hRB.lt _ e.symm; omega)
                    have hz := hc22.size
                    have hC := hC.then hc22 (fun k hk e => by have := hRB.lt _ e.symm; omega)
                    have hS := hS.kept hc22 (fun g o h e => by have := hgl g o h; have := hRB.lt _ e.symm; omega)
                    have hG := hG.kept hc22 (fun e => by have := hRB.lt _ e.symm; omega)
                    have hB2 := hc22.at hB2 (fun e => by have := hRB.lt _ e.symm; omega)
                    have hBm := hc22.at hBm (fun e => by have := hRB.lt _ e.symm; omega)
                    have hBc := hc22.at hBc (fun e => by have := hRB.lt _ e.symm; omega)
                    have hRA := hRA.kept hc22 (fun _ hk e => by have := hRAlt _ hk; have := hRB.lt _ e.symm; omega)
                    have hRB := hRBn
                    clear hRBn
                    obtain ⟨A2, cc2, rfl, _⟩ := hRB.sl.form
                    refine AH.eff 6 (by kernel_rfl) rfl rfl (OP.val (by decide) (FA33_7 rfl) ?_)
                    refine ⟨trivial, ?_⟩
                    refine AH.eff 7 (by kernel_rfl) rfl rfl (OP.store1 sz31 rfl rfl rfl rfl hBm (Nat.le_of_ble_eq_true rfl) rfl ?_)
                    intro w23 hc23 hs23 hBmn
                    refine ⟨trivial, ?_⟩
                    have hR := hc23.at hR (by omega)
                    have hz := hc23.size
                    have hC := hC.then hc23 (fun k hk e => by omega)
                    have hS := hS.kept hc23 (fun g o h e => by have := hgl g o h; omega)
                    have hG := hG.kept hc23 (fun e => by omega)
                    have hB2 := hc23.at hB2 (fun e => by omega)
                    have hBc := hc23.at hBc (fun e => by omega)
                    have hRB := hRB.kept hc23 (fun _ hk e => by have := hRB.lt _ hk; omega)
                    have hRA := hRA.kept hc23 (fun _ hk e => by have := hRAlt _ hk; omega)
                    have hBm : w23.heap[mb]? = some (.cells (Msg.cells ⟨(vi : Int), decide (0 < vf &&& 32768), decide (0 < vf &&& 512), decide (0 < vf &&& 256), ((vf &&& 15 : Nat) : Int), s, v8, [], []⟩ (.slice Aa rs.length ca) (.slice A2 (rs2 ++ [r]).length cc2)).toArray 33 (0, 0)) := hBmn
                    refine AH.done (by kernel_rfl) ?_
                    refine EW.inNormal ?_
                    refine EW.next ?_
                    refine CW.region ?_  -- region 19
                    refine WL.op (by decide) (R.add rfl rfl (by omega)) ?_  -- msg.go:258 t94 := (Op.binOp BinOp.add 3 t85 c(Value.int IntKind.i64 1) 3)
                    refine WL.op (by decide) (R.move rfl) ?_  -- msg.go:258 t85 := (Op.move t94)
                    refine WL.nil ?_
                    obtain ⟨k2, rfl⟩ : ∃ k2, kk = k2 + 1 := ⟨kk - 1, by omega⟩
                    exact EW.roundK [2, 3, 4, 5, 7, 84, 85] k2 (by omega) ⟨i2 + 1, _, _, rs2 ++ [r], ar, br2, by omega, by omega, rfl, hR, hin2, hC, hS, hG, by omega, hB2, hBm, hBc, hRB, by rw [List.length_append, hql]; rfl, small_snoc hqs hsm, by rw [heq2, recs_step hres], hRA⟩
                  · skip
                    refine (OP.call (by decide) Tryd.func47 (by kernel_rfl) (by kernel_rfl) rfl (rrec_any rb A m c bs a2' b2' _ hR hS (fun g o h => by have := hgl g o h; have := hC.size; omega) hin hm hG (by omega)) ?_)
                    rintro ed w20 ⟨r, ar, br2, rfl, hr16, hR, hc20, hres, hin2, hsm⟩
                    refine ⟨_, rfl, trivial, ?_⟩
                    have hz := hc20.size
                    have hC := hC.then hc20 (fun k hk e => by omega)
                    have hS := hS.kept hc20 (fun g o h e => by have := hgl g o h; omega)
                    have hG := hG.kept hc20 (fun e => by omega)
                    have hB2 := hc20.at hB2 (fun e => by omega)
                    have hBm := hc20.at hBm (fun e => by omega)
                    have hBc := hc20.at hBc (fun e => by omega)
                    have hRB := hRB.kept hc20 (fun _ hk e => by have := hRB.lt _ hk; omega)
                    have hRA := hRA.kept hc20 (fun _ hk e => by have := hRAlt _ hk; omega)
                    refine AH.either 1 4 (by kernel_rfl) rfl rfl rfl rfl ?_ ?_
                    · skip
                      refine (OP.val (by decide) (R.load Tryd.underlying31 rfl rfl (cell_at hBm rfl)) ?_)
                      refine ⟨trivial, ?_⟩
                      refine AH.eff 4 (by kernel_rfl) rfl rfl (OP.buildSliceR (by decide) rfl hr16 ?_)
                      intro w21 hc21 hs21 hb21
                      refine ⟨trivial, ?_⟩
                      have hR := hc21.at hR (fun e => e)
                      have hz := hc21.size
                      have hC := hC.then hc21 (fun k hk e => e.elim)
                      have hS := hS.kept hc21 (fun g o h e => e)
                      have hG := hG.kept hc21 (fun e => e)
                      have hB2 := hc21.at hB2 (fun e => e)
                      have hBm := hc21.at hBm (fun e => e)
                      have hBc := hc21.at hBc (fun e => e)
                      have hRB := hRB.kept hc21 (fun _ hk e => by have := hRB.lt _ hk; exact e)
                      have hRA := hRA.kept hc21 (fun _ hk e => by have := hRAlt _ hk; exact e)
                      refine AH.eff 5 (by kernel_rfl) rfl rfl (OP.appendR (by decide) rfl rfl hRB hr16 hb21 (by omega) (by omega) ?_)
                      intro v2 w22 hRBn hMv
                      refine ⟨trivial, ?_⟩
                      have hc22 := Chg.moved hMv
                      have hR := hc22.at hR (fun e => by have := hRB.lt _ e.symm; omega)
                      have hz := hc22.size
                      have hC := hC.then hc22 (fun k hk e => by have := hRB.lt _ e.symm; omega)
                      have hS := hS.kept hc22 (fun g o h e => by have := hgl g o h; have := hRB.lt _ e.symm; omega)
                      have hG := hG.kept hc22 (fun e => by have := hRB.lt _ e.symm; omega)
                      have hB2 := hc22.at hB2 (fun e => by have := hRB.lt _ e.symm; omega)
                      have hBm := hc22.at hBm (fun e => by have := hRB.lt _ e.symm; omega)
                      have hBc := hc22.at hBc (fun e => by have := hRB.lt _ e.symm; omega)
                      have hRA := hRA.kept hc22 (fun _ hk e => by have := hRAlt _ hk; have := hRB.lt _ e.symm; omega)
                      have hRB := hRBn
                      clear hRBn
                      obtain ⟨A2, cc2, rfl, _⟩ := hRB.sl.form
                      refine AH.eff 6 (by kernel_rfl) rfl rfl (OP.val (by decide) (FA33_7 rfl) ?_)
                      refine ⟨trivial, ?_⟩
                      refine AH.eff 7 (by kernel_rfl) rfl rfl (OP.store1 sz31 rfl rfl rfl rfl hBm (Nat.le_of_ble_eq_true rfl) rfl ?_)
                      intro w23 hc23 hs23 hBmn
                      refine ⟨trivial, ?_⟩
                      have hR := hc23.at hR (by omega)
                      have hz := hc23.size
                      have hC := hC.then hc23 (fun k hk e => by omega)
                      have hS := hS.kept hc23 (fun g o h e => by have := hgl g o h; omega)
                      have hG := hG.kept hc23 (fun e => by omega)
                      have hB2 := hc23.at hB2 (fun e => by omega)
                      have hBc := hc23.at hBc (fun e => by omega)
                      have hRB := hRB.kept hc23 (fun _ hk e => by have := hRB.lt _ hk; omega)
                      have hRA := hRA.kept hc23 (fun _ hk e => by have := hRAlt _ hk; omega)
                      have hBm : w23.heap[mb]? = some (.cells (Msg.cells ⟨(vi : Int), decide (0 < vf &&& 32768), decide (0 < vf &&& 512), decide (0 < vf &&& 256), ((vf &&& 15 : Nat) : Int), s, v8, [], []⟩ (.slice Aa rs.length ca) (.slice A2 (rs2 ++ [r]).length cc2)).toArray 33 (0, 0)) := hBmn
                      refine AH.done (by kernel_rfl) ?_
                      refine EW.inNormal ?_
                      refine EW.next ?_
                      refine CW.region ?_  -- region 19
                      refine WL.op (by decide) (R.add rfl rfl (by omega)) ?_  -- msg.go:258 t94 := (Op.binOp BinOp.add 3 t85 c(Value.int IntKind.i64 1) 3)
                      refine WL.op (by decide) (R.move rfl) ?_  -- msg.go:258 t85 := (Op.move t94)
                      refine WL.nil ?_
                      obtain ⟨k2, rfl⟩ : ∃ k2, kk = k2 + 1 := ⟨kk - 1, by omega⟩
                      exact EW.roundK [2, 3, 4, 5, 7, 84, 85] k2 (by omega) ⟨i2 + 1, _, _, rs2 ++ [r], ar, br2, by omega, by omega, rfl, hR, hin2, hC, hS, hG, by omega, hB2, hBm, hBc, hRB, by rw [List.length_append, hql]; rfl, small_snoc hqs hsm, by rw [heq2, recs_step hres], hRA⟩
                    · skip
                      refine (OP.buildSliceR (by decide) rfl hr16 ?_)
                      intro w21 hc21 hs21 hb21
                      refine ⟨trivial, ?_⟩
                      have hR := hc21.at hR (fun e => e)
                      have hz := hc21.size
                      have hC := hC.then hc21 (fun k hk e => e.elim)
                      have hS := hS.kept hc21 (fun g o h e => e)
                      have hG := hG.kept hc21 (fun e => e)
                      have hB2 := hc21.at hB2 (fun e => e)
                      have hBm := hc21.at hBm (fun e => e)
                      have hBc := hc21.at hBc (fun e => e)
                      have hRB := hRB.kept hc21 (fun _ hk e => by have := hRB.lt _ hk; exact e)
                      have hRA := hRA.kept hc21 (fun _ hk e => by have := hRAlt _ hk; exact e)
                      refine AH.eff 1 (by kernel_rfl) rfl rfl (OP.val (by decide) (R.load Tryd.underlying31 rfl rfl (cell_at hBm rfl)) ?_)
                      refine ⟨trivial, ?_⟩
                      refine AH.eff 5 (by kernel_rfl) rfl rfl (OP.appendR (by decide) rfl rfl hRB hr16 hb21 (by omega) (by omega) ?_)
                      intro v2 w22 hRBn hMv
                      refine ⟨trivial, ?_⟩
                      have hc22 := Chg.moved hMv
                      have hR := hc22.at hR (fun e => by have := hRB.lt _ e.symm; omega)
                      have hz := hc22.size
                      have hC := hC.then hc22 (fun k hk e => by have := hRB.lt _ e.symm; omega)
                      have hS := hS.kept hc22 (fun g o h e => by have := hgl g o h; have := hRB.lt _ e.symm; omega)
                      have hG := hG.kept hc22 (fun e => by have := hRB.lt _ e.symm; omega)
                      have hB2 := hc22.at hB2 (fun e => by have := hRB.lt _ e.symm; omega)
                      have hBm := hc22.at hBm (fun e => by have := hRB.lt _ e.symm; omega)
                      have hBc := hc22.at hBc (fun e => by have := hRB.lt _ e.symm; omega)
                      have hRA := hRA.kept hc22 (fun _ hk e => by have := hRAlt _ hk; have := hRB.lt _ e.symm; omega)
                      have hRB := hRBn
                      clear hRBn
                      obtain ⟨A2, cc2, rfl, _⟩ := hRB.sl.form
                      refine AH.eff 6 (by kernel_rfl) rfl rfl (OP.val (by decide) (FA33_7 rfl) ?_)
                      refine ⟨trivial, ?_⟩
                      refine AH.eff 7 (by kernel_rfl) rfl rfl (OP.store1 sz31 rfl rfl rfl rfl hBm (Nat.le_of_ble_eq_true rfl) rfl ?_)
                      intro w23 hc23 hs23 hBmn
                      refine ⟨trivial, ?_⟩
                      have hR := hc23.at hR (by omega)
                      have hz := hc23.size
                      have hC := hC.then hc23 (fun k hk e => by omega)
                      have hS := hS.kept hc23 (fun g o h e => by have := hgl g o h; omega)
                      have hG := hG.kept hc23 (fun e => by omega)
                      have hB2 := hc23.at hB2 (fun e => by omega)
                      have hBc := hc23.at hBc (fun e => by omega)
                      have hRB := hRB.kept hc23 (fun _ hk e => by have := hRB.lt _ hk; omega)
                      have hRA := hRA.kept hc23 (fun _ hk e => by have := hRAlt _ hk; omega)
                      have hBm : w23.heap[mb]? = some (.cells (Msg.cells ⟨(vi : Int), decide (0 < vf &&& 32768), decide (0 < vf &&& 512), decide (0 < vf &&& 256), ((vf &&& 15 : Nat) : Int), s, v8, [], []⟩ (.slice Aa rs.length ca) (.slice A2 (rs2 ++ [r]).length cc2)).toArray 33 (0, 0)) := hBmn
                      refine AH.done (by kernel_rfl) ?_
                      refine EW.inNormal ?_
                      refine EW.next ?_
                      refine CW.region ?_  -- region 19
                      refine WL.op (by decide) (R.add rfl rfl (by omega)) ?_  -- msg.go:258 t94 := (Op.binOp BinOp.add 3 t85 c(Value.int IntKind.i64 1) 3)
                      refine WL.op (by decide) (R.move rfl) ?_  -- msg.go:258 t85 := (Op.move t94)
                      refine WL.nil ?_
                      obtain ⟨k2, rfl⟩ : ∃ k2, kk = k2 + 1 := ⟨kk - 1, by omega⟩
                      exact EW.roundK [2, 3, 4, 5, 7, 84, 85] k2 (by omega) ⟨i2 + 1, _, _, rs2 ++ [r], ar, br2, by omega, by omega, rfl, hR, hin2, hC, hS, hG, by omega, hB2, hBm, hBc, hRB, by rw [List.length_append, hql]; rfl, small_snoc hqs hsm, by rw [heq2, recs_step hres], hRA⟩
                · skip
                  refine WL.next ?_
                  refine CW.seq ?_
                  refine CW.condF rfl ?_
                  refine CW.exit ?_
                  obtain rfl : kk = 0 := by omega
                  rw [recs_zero] at heq2
                  obtain ⟨Ab, cb2, rfl, _⟩ := hRB.sl.form
                  refine EW.thenExit ?_
                  refine EW.thenExit ?_
                  refine EW.inHere ?_
                  refine EW.next ?_
                  refine CW.seq ?_
                  refine CW.rseq ?_  -- region 20
                  refine WL.op (by decide) (R.move rfl) ?_  -- msg.go:261 t95 := (Op.move t4)
                  refine WL.op (by decide) (R.nilCheck rfl) ?_  -- msg.go:261 t96 := (Op.nilCheck t95)
                  refine WL.op (by decide) (FA100_2 rfl) ?_  -- msg.go:261 t97 := (Op.fieldAddr 100 t96 2)
                  cases b2'
                  · skip
                    refine WL.op (by decide) (R.load Tryd.underlying4 rfl rfl (cell_at hR rfl)) ?_
                    refine WL.op (by decide) (R.move rfl) ?_  -- msg.go:261 t99 := (Op.move t98)
                    refine WL.gop (by decide) rfl rfl rfl (R.loadAgg1 (cs := Msg.cells ⟨(vi : Int), decide (0 < vf &&& 32768), decide (0 < vf &&& 512), decide (0 < vf &&& 256), ((vf &&& 15 : Nat) : Int), s, v8, rs, rs2⟩ (.slice Aa rs.length ca) (.slice Ab rs2.length cb2)) Tryd.underlying33 rfl sz33 rfl (fun j u hj => cell_at hBm (by rw [Nat.zero_add, List.getElem?_toArray]; exact hj))) ?_  -- msg.go:261 t100 := (Op.load 33 t5) [guard 4 false]
                    refine WL.geff rfl rfl rfl (OP.call (by decide) Tryd.func30 (by kernel_rfl) (by kernel_rfl) rfl (all_any ⟨(vi : Int), decide (0 < vf &&& 32768), decide (0 < vf &&& 512), decide (0 < vf &&& 256), ((vf &&& 15 : Nat) : Int), s, v8, rs, rs2⟩ _ _ ⟨_, _, rfl, hRA, hRB.sl⟩ hG ⟨by show s.length ≤ _; omega, by show rs.length ≤ _; omega, by show rs2.length ≤ _; omega, small_app hqsA hqs⟩) ?_)
                    rintro ed w30 ⟨rfl, hc30⟩
                    refine ⟨_, rfl, ?_⟩
                    have hz := hc30.size
                    have hC := hC.then hc30 (fun k hk e => e.elim)
                    have hS := hS.kept hc30 (fun g o h e => e)
                    have hG := hG.kept hc30 (fun e => e)
                    have hB2 := hc30.at hB2 (fun e => e)
                    have hBm := hc30.at hBm (fun e => e)
                    have hRA := hRA.kept hc30 (fun _ _ e => e)
                    have hRB := hRB.kept hc30 (fun _ _ e => e)
                    cases hall : allM ⟨(vi : Int), decide (0 < vf &&& 32768), decide (0 < vf &&& 512), decide (0 < vf &&& 256), ((vf &&& 15 : Nat) : Int), s, v8, rs, rs2⟩
                    · skip
                      refine WL.gop (by decide) rfl rfl rfl (R.not rfl) ?_
                      refine WL.op (by decide) (R.pickF rfl rfl) ?_  -- msg.go:261 t103 := (Op.pick t99 c(Value.bool true) t102)
                      refine WL.next ?_
                      refine CW.condT rfl ?_
                      refine CW.rseq ?_  -- region 21
                      refine WL.op (by decide) (R.build (parts := []) (vals := []) rfl (fun w => build33_0 w)) ?_  -- msg.go:262 t104 := (Op.build 33 [])
                      refine WL.eff rfl (OP.storeAgg inf33.choose_spec.1 (by rw [inf33.choose_spec.2]; rfl) rfl rfl (m_all _ _ _ _ _ _ _) hB2 rfl ?_)
                      intro w40 hc40 hs40 hB2
                      have hC := hC.then hc40 (fun k hk e => by omega)
                      refine WL.op (by decide) (R.assign rfl) ?_  -- msg.go:262 t3 := (Op.assign c(Value.int IntKind.i64 4))
                      refine WL.next ?_
                      refine CW.ret ?_
                      refine EW.thenRet ?_
                      have hd : decode bs = none := dec_notall hdec heq heq2 hall
                      exact EW.retCT (.inl rfl) rfl rfl rfl (cs := Msg.cells ⟨0, false, false, false, 0, [], 0, [], []⟩ (.slice none 0 0) (.slice none 0 0)) Tryd.underlying33 rfl sz33 (fun j u hj => cell_at hB2 (by rw [List.getElem?_toArray]; exact hj)) ⟨hC, by rw [hd]; rfl⟩
                    · skip
                      refine WL.gop (by decide) rfl rfl rfl (R.not rfl) ?_
                      refine WL.op (by decide) (R.pickF rfl rfl) ?_  -- msg.go:261 t103 := (Op.pick t99 c(Value.bool true) t102)
                      refine WL.next ?_
                      refine CW.condF rfl ?_
                      refine CW.skip ?_
                      refine EW.next ?_
                      refine CW.rseq ?_  -- region 22
                      refine WL.op (by decide) (R.loadAgg1 (cs := Msg.cells ⟨(vi : Int), decide (0 < vf &&& 32768), decide (0 < vf &&& 512), decide (0 < vf &&& 256), ((vf &&& 15 : Nat) : Int), s, v8, rs, rs2⟩ (.slice Aa rs.length ca) (.slice Ab rs2.length cb2)) Tryd.underlying33 rfl sz33 rfl (fun j u hj => cell_at hBm (by rw [Nat.zero_add, List.getElem?_toArray]; exact hj))) ?_  -- msg.go:264 t105 := (Op.load 33 t5)
                      refine WL.eff rfl (OP.storeAgg inf33.choose_spec.1 (by rw [inf33.choose_spec.2]; rfl) rfl rfl (m_all _ _ _ _ _ _ _) hB2 rfl ?_)
                      intro w40 hc40 hs40 hB2
                      have hC := hC.then hc40 (fun k hk e => by omega)
                      refine WL.op (by decide) (R.assign rfl) ?_  -- msg.go:264 t3 := (Op.assign c(Value.int IntKind.i64 0))
                      refine WL.next ?_
                      refine CW.ret ?_
                      have hd := dec_some hdec heq heq2 hall
                      exact EW.retCT (.inl rfl) rfl rfl rfl (cs := Msg.cells ⟨(vi : Int), decide (0 < vf &&& 32768), decide (0 < vf &&& 512), decide (0 < vf &&& 256), ((vf &&& 15 : Nat) : Int), s, v8, rs, rs2⟩ (.slice Aa rs.length ca) (.slice Ab rs2.length cb2)) Tryd.underlying33 rfl sz33 (fun j u hj => cell_at hB2 (by rw [List.getElem?_toArray]; exact hj)) ⟨hC, by rw [hd]; exact ⟨_, rfl, _, _, rfl, hRA.kept hc40 (fun _ _ e => by have := hRAlt _ (by assumption); omega), (hRB.sl).kept hc40 (fun k hk e => by have := hRB.lt k hk; omega), fun k hk => by have := hRAlt k hk; omega, fun k hk => by have := hRB.lt k hk; omega⟩⟩
                  · skip
                    refine WL.op (by decide) (R.load Tryd.underlying4 rfl rfl (cell_at hR rfl)) ?_
                    refine WL.op (by decide) (R.move rfl) ?_  -- msg.go:261 t99 := (Op.move t98)
                    refine WL.pass (by decide) rfl rfl rfl ?_  -- msg.go:261 t100 := (Op.load 33 t5) [guard 4 false]
                    refine WL.pass (by decide) rfl rfl rfl ?_  -- msg.go:261 t101 := (Op.call (Call.mk (Callee.value (Operand.func 30)) [t100] [33])) [guard 4 false]
                    refine WL.pass (by decide) rfl rfl rfl ?_  -- msg.go:261 t102 := (Op.unOp UnOp.not 4 t101) [guard 4 false]
                    refine WL.op (by decide) (R.pickT rfl rfl) ?_  -- msg.go:261 t103 := (Op.pick t99 c(Value.bool true) t102)
                    refine WL.next ?_
                    refine CW.condT rfl ?_
                    refine CW.rseq ?_  -- region 21
                    refine WL.op (by decide) (R.build (parts := []) (vals := []) rfl (fun w => build33_0 w)) ?_  -- msg.go:262 t104 := (Op.build 33 [])
                    refine WL.eff rfl (OP.storeAgg inf33.choose_spec.1 (by rw [inf33.choose_spec.2]; rfl) rfl rfl (m_all _ _ _ _ _ _ _) hB2 rfl ?_)
                    intro w40 hc40 hs40 hB2
                    have hC := hC.then hc40 (fun k hk e => by omega)
                    refine WL.op (by decide) (R.assign rfl) ?_  -- msg.go:262 t3 := (Op.assign c(Value.int IntKind.i64 4))
                    refine WL.next ?_
                    refine CW.ret ?_
                    refine EW.thenRet ?_
                    have hd : decode bs = none := dec_none hdec heq heq2
                    exact EW.retCT (.inl rfl) rfl rfl rfl (cs := Msg.cells ⟨0, false, false, false, 0, [], 0, [], []⟩ (.slice none 0 0) (.slice none 0 0)) Tryd.underlying33 rfl sz33 (fun j u hj => cell_at hB2 (by rw [List.getElem?_toArray]; exact hj)) ⟨hC, by rw [hd]; rfl⟩
end Go.Proofs.YthcpjcgjmdfpjaaDoor
