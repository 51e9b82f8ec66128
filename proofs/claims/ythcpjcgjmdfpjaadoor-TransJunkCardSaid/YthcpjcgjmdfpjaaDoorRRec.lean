/- (*reader).record. -/
import Derived.Test.YthcpjcgjmdfpjaaDoorOps5
namespace Go.Proofs.YthcpjcgjmdfpjaaDoor
open Go Go.RowKit
set_option maxRecDepth 100000
set_option maxHeartbeats 4000000

theorem build57_2 (s : List UInt8) (t : Int) (w : World) : (Instr.build 57 #[(0, sv s), (1, .int .i64 t)]).run Tryd.prog w = .ok (Rec.val ⟨s, t, 0, zero16, [], []⟩) w := by unfold sv; kernel_rfl
theorem build57_0 (w : World) : (Instr.build 57 #[]).run Tryd.prog w = .ok (Rec.val ⟨[], 0, 0, zero16, [], []⟩) w := by kernel_rfl
theorem inf108 : ∃ i, Tryd.prog.info? 108 = some i ∧ i.size = 12 := inf_of sz108
theorem u8v_all (l : List UInt8) : (l.map u8v).toArray.all (·.oneCell') = true := by
  rw [Array.all_eq_true_iff_forall_mem]
  intro u hu
  exact u8v_one _ u (by simpa using hu)
theorem guard5 {b : Bool} {v n m : Nat} : b = true ∨ (b = false ∧ v ≠ 1) ∨ (b = false ∧ v = 1 ∧ m < n) ∨ (b = false ∧ v = 1 ∧ n ≤ m) := by
  cases b <;> simp <;> omega
theorem Buf.open {w : World} {base : Nat} {v : Value} {bs : List UInt8} (h : Buf w base v bs) (h0 : bs ≠ []) : ∃ g cap, v = .slice (some ⟨g, 0, none⟩) bs.length cap ∧ base ≤ g ∧ g < w.heap.size ∧ bs.length ≤ cap ∧ ∀ (j : Nat) (b : UInt8), bs[j]? = some b → w.cell? ⟨g, j, none⟩ = some (u8v b) := by
  have h' := h
  rcases h.2 with ⟨rfl, hn⟩ | ⟨g, cap, cur, rfl, hb, hg, hle, r⟩
  · exact absurd (List.eq_nil_of_length_eq_zero hn) h0
  · exact ⟨g, cap, rfl, hb, (Array.getElem?_eq_some_iff.1 hg).1, hle, fun j b hj => h'.cell hj⟩
theorem cells_at {w : World} {g o : Nat} {dat : List UInt8} (h : ∀ (j : Nat) (b : UInt8), dat[j]? = some b → w.cell? ⟨g, o + j, none⟩ = some (u8v b)) : ∀ j u, (dat.map u8v)[j]? = some u → w.cell? ((⟨g, o, none⟩ : Addr).add j) = some u := by
  intro j u hj
  rw [Addr.add_none]
  rw [List.getElem?_map, Option.map_eq_some_iff] at hj
  obtain ⟨b, hb, rfl⟩ := hj
  exact h j b hb
theorem cells_at0 {w : World} {g : Nat} {dat : List UInt8} (h : ∀ (j : Nat) (b : UInt8), dat[j]? = some b → w.cell? ⟨g, j, none⟩ = some (u8v b)) : ∀ j u, (dat.map u8v)[j]? = some u → w.cell? ((⟨g, 0, none⟩ : Addr).add j) = some u :=
  cells_at (fun j b hj => by rw [Nat.zero_add]; exact h j b hj)
theorem data_at {w : World} {bs : List UInt8} {g o a v c : Nat} (h : ∀ (j : Nat) (b : UInt8), bs[j]? = some b → w.cell? ⟨g, o + j, none⟩ = some (u8v b)) (hl : a + v ≤ bs.length) (hc : bs.length ≤ c) :
    ∃ g2 o2, (if c = a then (⟨g, o, none⟩ : Addr) else ⟨g, o + a, none⟩) = ⟨g2, o2, none⟩ ∧ g = g2 ∧ ∀ (j : Nat) (b : UInt8), ((bs.drop a).take v)[j]? = some b → w.cell? ⟨g2, o2 + j, none⟩ = some (u8v b) := by
  by_cases e : c = a
  · refine ⟨g, o, if_pos e, rfl, fun j b hj => ?_⟩
    have := (List.getElem?_eq_some_iff.1 hj).1
    simp at this; omega
  · refine ⟨g, o + a, if_neg e, rfl, fun j b hj => ?_⟩
    rw [List.getElem?_take] at hj
    split at hj
    · rw [List.getElem?_drop] at hj; rw [Nat.add_assoc]; exact h (a + j) b hj
    · cases hj

def BodyRes (res : Option Rec) (r : Rec) (b : Bool) : Prop :=
  match res with
  | some r0 => r = r0 ∧ b = false
  | none => b = true
theorem rr_false {res : Option Rec} {r : Rec} {e : Nat} {b : Bool} (h : BodyRes res r b) (hr : rightR r = false) : RecRes (finR res e) r e true := by
  cases res with
  | none => rfl
  | some r0 => obtain ⟨rfl, _⟩ := h; simp only [finR]; rw [if_neg (by simp [hr])]; rfl
theorem rr_true {res : Option Rec} {r : Rec} {e : Nat} {b : Bool} (h : BodyRes res r b) (hr : rightR r = true) : RecRes (finR res e) r e b := by
  cases res with
  | none => exact h
  | some r0 => obtain ⟨rfl, rfl⟩ := h; simp only [finR]; rw [if_pos hr]; exact ⟨rfl, rfl, rfl⟩
section
variable {bs nm s2 : List UInt8} {ty a n a6 : Nat} {ttl : Int} {b6 : Bool}
theorem body_a (h : ty = 1) (h2 : n = 4) : recBody bs nm ty ttl a n = some ⟨nm, ty, ttl, mappedL ++ (bs.drop a).take n, [], []⟩ := by rw [recBody, if_pos ⟨h, h2⟩]
theorem body_aaaa (h : ty = 28) (h2 : n = 16) : recBody bs nm ty ttl a n = some ⟨nm, ty, ttl, (bs.drop a).take n, [], []⟩ := by rw [recBody, if_neg (by omega), if_pos ⟨h, h2⟩]
theorem body_far (h : ty = 2 ∨ ty = 5 ∨ ty = 12) (hn : if false = true then NameRes none s2 a6 b6 else NameRes (rdName bs 300 a 0 0 [] a) s2 a6 b6) (hne : a6 ≠ a + n) : recBody bs nm ty ttl a n = none := by
  rw [recBody, if_neg (by omega), if_neg (by omega), if_pos h]
  cases b6 with
  | true => rcases nres_no hn with h1 | h1
            · cases h1
            · rw [h1]
  | false => rw [(nres_ok hn).2]; simp only; rw [if_neg hne]
theorem body_near (h : ty = 2 ∨ ty = 5 ∨ ty = 12) (hn : if false = true then NameRes none s2 a6 b6 else NameRes (rdName bs 300 a 0 0 [] a) s2 a6 b6) (hne : a6 = a + n) : BodyRes (recBody bs nm ty ttl a n) ⟨nm, ty, ttl, zero16, s2, []⟩ b6 := by
  rw [recBody, if_neg (by omega), if_neg (by omega), if_pos h]
  cases b6 with
  | true => rcases nres_no hn with h1 | h1
            · cases h1
            · rw [h1]; rfl
  | false => rw [(nres_ok hn).2]; simp only; rw [if_pos hne]; exact ⟨rfl, rfl⟩
theorem body_other (h1 : ¬ (ty = 1 ∧ n = 4)) (h2 : ¬ (ty = 28 ∧ n = 16)) (h3 : ¬ (ty = 2 ∨ ty = 5 ∨ ty = 12)) : recBody bs nm ty ttl a n = some ⟨nm, ty, ttl, zero16, [], (bs.drop a).take n⟩ := by
  rw [recBody, if_neg h1, if_neg h2, if_neg h3]
end
section
variable {bs : List UInt8} {a : Nat} {bad : Bool} {s : List UInt8} {a1 a2 a3 a4 a5 v2 v3 v4 v5 : Nat} {b1 b2 b3 b4 : Bool}
theorem chain_body (h1 : if bad = true then NameRes none s a1 b1 else NameRes (rdName bs 300 a 0 0 [] a) s a1 b1) (e2 : numR bs 2 a1 b1 = (v2, a2, b2)) (e3 : numR bs 2 a2 b2 = (v3, a3, b3)) (e4 : numR bs 4 a3 b3 = (v4, a4, b4)) (e5 : numR bs 2 a4 b4 = (v5, a5, false)) (hc : v3 = 1) (hl : a5 + v5 ≤ bs.length) :
    (if bad = true then none else readRec bs a) = finR (recBody bs s v2 (ttlOf v4) a5 v5) (a5 + v5) := by
  obtain ⟨rfl, hn, hl1, rfl, rfl, rfl, rfl, rfl⟩ := chain_ok h1 e2 e3 e4 e5 rfl
  rw [if_neg (by simp), readRec_body hn hl1 hc hl]
end

theorem rrec_any (rb : Nat) (A : Option Addr) (m c : Nat) (bs : List UInt8) (a : Nat) (bad : Bool) (w : World) (hR : RSt w rb A m c a bad) (hS : Src w A m c bs) (hg : ∀ g o, A = some ⟨g, o, none⟩ → g ≠ rb ∧ g < w.heap.size) (ha : In bs a bad) (hm : m ≤ 1099511627776) (hG : Glob w) (hrb0 : rb ≠ 0) :
    Calls Tryd.prog 47 #[.pointer (some ⟨rb, 0, none⟩)] w fun e w' => ∃ r a' bad', e = .returned r.val ∧ r.addr.length = 16 ∧ RSt w' rb A m c a' bad' ∧ Chg (fun k => k = rb) w w' ∧ RecRes (if bad = true then none else readRec bs a) r a' bad' ∧ In bs a' bad' ∧ r.small := by
  have hrb : rb < w.heap.size := (Array.getElem?_eq_some_iff.1 hR).1
  have hlen := hS.len
  refine calls_cw (args := [.pointer (some ⟨rb, 0, none⟩)]) Tryd.func47 rfl rfl ?_
  show CW _ _ _ 131 [(0, .pointer (some ⟨rb, 0, none⟩))] w
  refine CW.rseq ?_  -- region 0
  refine WL.eff rfl (OP.allocR (by decide) ?_)
  intro w1 hc1 hs1 hB2
  have hC : Chg (fun k => k = rb) w w1 := hc1.mono (fun _ _ h => h.elim)
  have hS := hS.kept hc1 (fun _ _ _ h => h)
  have hG := hG.kept hc1 (fun h => h)
  have hR := hc1.at hR (fun h => h)
  have hsz : w.heap.size < w1.heap.size := by omega
  refine WL.next ?_
  refine CW.rseq ?_  -- region 1
  refine WL.op (by decide) (R.move rfl) ?_  -- msg.go:210 t9 := (Op.move t0)
  refine WL.eff rfl (OP.call (by decide) Tryd.func46 (by kernel_rfl) (by kernel_rfl) rfl (rname_st rb A m c bs a bad _ hR hS (fun g o h => (hg g o h).1) ha hm) ?_)
  rintro ed w2 ⟨s, a1, b1, rfl, hR, hc2, h1, hsl0⟩
  refine ⟨_, rfl, ?_⟩
  have hsl : s.length ≤ 1099511627776 := by omega
  have hin1 := nres_in h1
  have hC := hC.trans hc2
  have hS := hS.kept hc2 (fun g o h => (hg g o h).1)
  have hG := hG.kept hc2 (by omega)
  have hsz := Nat.le_trans hsz hc2.size
  have hB2 := hc2.at hB2 (by omega)
  refine WL.op (by decide) (R.move rfl) ?_  -- msg.go:210 t11 := (Op.move t0)
  refine WL.eff rfl (OP.call (by decide) Tryd.func45 (by kernel_rfl) (by kernel_rfl) rfl (num_st rb A m c bs 2 _ _ _ hR hS (by decide) (by decide) hin1 hm) ?_)
  rintro ed w3 ⟨v2, a2, b2, e2, rfl, hR, hc3⟩
  refine ⟨_, rfl, ?_⟩
  have hin3 := numR_in e2
  have hC := hC.trans hc3
  have hS := hS.kept hc3 (fun g o h => (hg g o h).1)
  have hG := hG.kept hc3 (by omega)
  have hsz := Nat.le_trans hsz hc3.size
  have hB2 := hc3.at hB2 (by omega)
  refine WL.op (by decide) (R.build (parts := [(0, _), (1, _)]) (vals := [(0, _), (1, _)]) rfl (fun w => build57_2 _ _ w)) ?_  -- msg.go:210 t13 := (Op.build 57 [(0, t10), (1, t12)])
  refine WL.eff rfl (OP.allocR (by decide) ?_)
  intro w4 hc4 hs4 hB3
  have hC := hC.trans (hc4.mono (fun _ _ h => h.elim))
  have hS := hS.kept hc4 (fun _ _ _ h => h)
  have hG := hG.kept hc4 (fun h => h)
  have hR := hc4.at hR (fun h => h)
  have hB2 := hc4.at hB2 (fun h => h)
  refine WL.eff rfl (OP.storeR rfl rfl (by rfl) (by rfl) hB3 ?_)
  intro w5 hc5 hs5 hB3
  have hC := hC.then hc5 (fun k hk e => by omega)
  have hS := hS.kept hc5 (fun g o h e => by have := hg g o h; omega)
  have hG := hG.kept hc5 (by omega)
  have hR := hc5.at hR (by omega)
  have hB2 := hc5.at hB2 (by omega)
  have hsz : w4.heap.size ≤ w5.heap.size := by omega
  refine WL.next ?_
  refine CW.rseq ?_  -- region 2
  refine WL.op (by decide) (R.move rfl) ?_  -- msg.go:211 t14 := (Op.move t0)
  refine WL.eff rfl (OP.call (by decide) Tryd.func45 (by kernel_rfl) (by kernel_rfl) rfl (num_st rb A m c bs 2 _ _ _ hR hS (by decide) (by decide) hin3 hm) ?_)
  rintro ed w6 ⟨v3, a3, b3, e3, rfl, hR, hc6⟩
  refine ⟨_, rfl, ?_⟩
  have hin6 := numR_in e3
  have hC := hC.trans hc6
  have hS := hS.kept hc6 (fun g o h => (hg g o h).1)
  have hG := hG.kept hc6 (by omega)
  have hsz := Nat.le_trans hsz hc6.size
  have hB2 := hc6.at hB2 (by omega)
  have hB3 := hc6.at hB3 (by omega)
  refine WL.op (by decide) (R.assign rfl) ?_  -- msg.go:211 t4 := (Op.assign t15)
  refine WL.next ?_
  refine CW.rseq ?_  -- region 3
  refine WL.op (by decide) (R.move rfl) ?_  -- msg.go:212 t16 := (Op.move t0)
  refine WL.eff rfl (OP.call (by decide) Tryd.func45 (by kernel_rfl) (by kernel_rfl) rfl (num_st rb A m c bs 4 _ _ _ hR hS (by decide) (by decide) hin6 hm) ?_)
  rintro ed w7 ⟨v4, a4, b4, e4, rfl, hR, hc7⟩
  refine ⟨_, rfl, ?_⟩
  have hin7 := numR_in e4
  have hC := hC.trans hc7
  have hS := hS.kept hc7 (fun g o h => (hg g o h).1)
  have hG := hG.kept hc7 (by omega)
  have hsz := Nat.le_trans hsz hc7.size
  have hB2 := hc7.at hB2 (by omega)
  have hB3 := hc7.at hB3 (by omega)
  refine WL.op (by decide) (R.minC rfl rfl) ?_  -- msg.go:212 t18 := (Op.call (Call.mk (Callee.builtin Builtin.min) [t17, c(Value.int IntKind.i64 1048576)] [3,
  refine WL.op (by decide) (FA57_2 rfl) ?_  -- msg.go:212 t19 := (Op.fieldAddr 57 t3 2)
  refine WL.eff rfl (OP.store1 sz3 rfl rfl rfl rfl hB3 (by rw [List.size_toArray, Rec.length rfl]; decide) rfl ?_)
  intro w8 hc8 hs8 hB3n
  have hB3 := hB3n
  rw [show (0 + 2 : Nat) = 2 from rfl, Rec.set2] at hB3
  have hC := hC.then hc8 (fun k hk e => by omega)
  have hS := hS.kept hc8 (fun g o h e => by have := hg g o h; omega)
  have hG := hG.kept hc8 (by omega)
  have hR := hc8.at hR (by omega)
  have hB2 := hc8.at hB2 (by omega)
  have hsz := Nat.le_trans hsz hc8.size
  refine WL.next ?_
  refine CW.rseq ?_  -- region 4
  refine WL.op (by decide) (R.move rfl) ?_  -- msg.go:213 t20 := (Op.move t0)
  refine WL.eff rfl (OP.call (by decide) Tryd.func45 (by kernel_rfl) (by kernel_rfl) rfl (num_st rb A m c bs 2 _ _ _ hR hS (by decide) (by decide) hin7 hm) ?_)
  rintro ed w9 ⟨v5, a5, b5, e5, rfl, hR, hc9⟩
  refine ⟨_, rfl, ?_⟩
  have hin9 := numR_in e5
  have hC := hC.trans hc9
  have hS := hS.kept hc9 (fun g o h => (hg g o h).1)
  have hG := hG.kept hc9 (by omega)
  have hsz := Nat.le_trans hsz hc9.size
  have hB2 := hc9.at hB2 (by omega)
  have hB3 := hc9.at hB3 (by omega)
  refine WL.op (by decide) (R.assign rfl) ?_  -- msg.go:213 t5 := (Op.assign t21)
  refine WL.next ?_
  refine CW.seq ?_
  refine CW.seq ?_
  rcases guard5 (b := b5) (v := v3) (n := a5 + v5) (m := bs.length) with hgd | hgd | hgd | hgd
  · skip
    obtain rfl := hgd
    refine CW.draw (fun w => RSt w rb A m c a5 true) (by kernel_rfl) ?_
    refine AH.take 0 rfl (by kernel_rfl) (by kernel_rfl) (by kernel_rfl) (fun _ _ _ _ h => h) hR (by decide) (fun w hS => R.move rfl) ?_  -- msg.go:214 t22 := (Op.move t0)
    refine AH.take 1 rfl (by kernel_rfl) (by kernel_rfl) (by kernel_rfl) (fun _ _ _ _ h => h) hR (by decide) (fun w hS => R.nilCheck rfl) ?_  -- msg.go:214 t23 := (Op.nilCheck t22)
    refine AH.take 2 rfl (by kernel_rfl) (by kernel_rfl) (by kernel_rfl) (fun _ _ _ _ h => h) hR (by decide) (fun w hS => FA100_2 rfl) ?_  -- msg.go:214 t24 := (Op.fieldAddr 100 t23 2)
    refine AH.take 3 rfl (by kernel_rfl) (by kernel_rfl) (by kernel_rfl) (fun _ _ _ _ h => h) hR (by decide) (fun w hS => R.load Tryd.underlying4 rfl rfl (cell_at hS rfl)) ?_  -- msg.go:214 t25 := (Op.load 4 t24)
    refine AH.take 4 rfl (by kernel_rfl) (by kernel_rfl) (by kernel_rfl) (fun _ _ _ _ h => h) hR (by decide) (fun w hS => R.move rfl) ?_  -- msg.go:214 t26 := (Op.move t25)
    refine AH.pass 5 rfl (by kernel_rfl) (by kernel_rfl) (by kernel_rfl) (fun _ _ _ _ h => h) hR (by decide) rfl rfl rfl ?_  -- msg.go:214 t27 := (Op.move t4) [guard 4 false]
    refine AH.pass 6 rfl (by kernel_rfl) (by kernel_rfl) (by kernel_rfl) (fun _ _ _ _ h => h) hR (by decide) rfl rfl rfl ?_  -- msg.go:214 t28 := (Op.binOp BinOp.neq 3 t27 c(Value.int IntKind.i64 1) 3) [guard 4 false]
    refine AH.take 7 rfl (by kernel_rfl) (by kernel_rfl) (by kernel_rfl) (fun _ _ _ _ h => h) hR (by decide) (fun w hS => R.pickT rfl rfl) ?_  -- msg.go:214 t29 := (Op.pick t26 c(Value.bool true) t28)
    refine AH.take 8 rfl (by kernel_rfl) (by kernel_rfl) (by kernel_rfl) (fun _ _ _ _ h => h) hR (by decide) (fun w hS => R.move rfl) ?_  -- msg.go:214 t30 := (Op.move t29)
    refine AH.pass 9 rfl (by kernel_rfl) (by kernel_rfl) (by kernel_rfl) (fun _ _ _ _ h => h) hR (by decide) rfl rfl rfl ?_  -- msg.go:214 t31 := (Op.move t0) [guard 8 false]
    refine AH.pass 10 rfl (by kernel_rfl) (by kernel_rfl) (by kernel_rfl) (fun _ _ _ _ h => h) hR (by decide) rfl rfl rfl ?_  -- msg.go:214 t32 := (Op.nilCheck t31) [guard 8 false]
    refine AH.pass 11 rfl (by kernel_rfl) (by kernel_rfl) (by kernel_rfl) (fun _ _ _ _ h => h) hR (by decide) rfl rfl rfl ?_  -- msg.go:214 t33 := (Op.fieldAddr 100 t32 1) [guard 8 false]
    refine AH.pass 12 rfl (by kernel_rfl) (by kernel_rfl) (by kernel_rfl) (fun _ _ _ _ h => h) hR (by decide) rfl rfl rfl ?_  -- msg.go:214 t34 := (Op.load 3 t33) [guard 8 false]
    refine AH.pass 13 rfl (by kernel_rfl) (by kernel_rfl) (by kernel_rfl) (fun _ _ _ _ h => h) hR (by decide) rfl rfl rfl ?_  -- msg.go:214 t35 := (Op.move t5) [guard 8 false]
    refine AH.pass 14 rfl (by kernel_rfl) (by kernel_rfl) (by kernel_rfl) (fun _ _ _ _ h => h) hR (by decide) rfl rfl rfl ?_  -- msg.go:214 t36 := (Op.binOp BinOp.add 3 t34 t35 3) [guard 8 false]
    refine AH.pass 15 rfl (by kernel_rfl) (by kernel_rfl) (by kernel_rfl) (fun _ _ _ _ h => h) hR (by decide) rfl rfl rfl ?_  -- msg.go:214 t37 := (Op.move t0) [guard 8 false]
    refine AH.pass 16 rfl (by kernel_rfl) (by kernel_rfl) (by kernel_rfl) (fun _ _ _ _ h => h) hR (by decide) rfl rfl rfl ?_  -- msg.go:214 t38 := (Op.nilCheck t37) [guard 8 false]
    refine AH.pass 17 rfl (by kernel_rfl) (by kernel_rfl) (by kernel_rfl) (fun _ _ _ _ h => h) hR (by decide) rfl rfl rfl ?_  -- msg.go:214 t39 := (Op.fieldAddr 100 t38 0) [guard 8 false]
    refine AH.pass 18 rfl (by kernel_rfl) (by kernel_rfl) (by kernel_rfl) (fun _ _ _ _ h => h) hR (by decide) rfl rfl rfl ?_  -- msg.go:214 t40 := (Op.load 36 t39) [guard 8 false]
    refine AH.pass 19 rfl (by kernel_rfl) (by kernel_rfl) (by kernel_rfl) (fun _ _ _ _ h => h) hR (by decide) rfl rfl rfl ?_  -- msg.go:214 t41 := (Op.call (Call.mk (Callee.builtin Builtin.len) [t40] [36])) [guard 8 false]
    refine AH.pass 20 rfl (by kernel_rfl) (by kernel_rfl) (by kernel_rfl) (fun _ _ _ _ h => h) hR (by decide) rfl rfl rfl ?_  -- msg.go:214 t42 := (Op.binOp BinOp.gtr 3 t36 t41 3) [guard 8 false]
    refine AH.take 21 rfl (by kernel_rfl) (by kernel_rfl) (by kernel_rfl) (fun _ _ _ _ h => h) hR (by decide) (fun w hS => R.pickT rfl rfl) ?_  -- msg.go:214 t43 := (Op.pick t30 c(Value.bool true) t42)
    refine AH.done (by kernel_rfl) ?_
    have hC := hC.trans (Chg.drew _ _)
    have hS := hS.kept (Chg.drew (fun _ => False) _) (fun _ _ _ h => h)
    have hG := hG.kept (Chg.drew (fun _ => False) _) (fun h => h)
    have hsz := Nat.le_trans hsz (Chg.drew (fun _ => False) _).size
    have hgd : (true = true ∨ (true = false ∧ v3 ≠ 1) ∨ (true = false ∧ bs.length < a5 + v5)) := .inl rfl
    refine EW.next ?_
    refine CW.condT rfl ?_
    refine CW.rseq ?_  -- region 6
    refine WL.op (by decide) (R.move rfl) ?_  -- msg.go:215 t44 := (Op.move t0)
    refine WL.op (by decide) (R.nilCheck rfl) ?_  -- msg.go:215 t45 := (Op.nilCheck t44)
    refine WL.op (by decide) (FA100_2 rfl) ?_  -- msg.go:215 t46 := (Op.fieldAddr 100 t45 2)
    refine WL.eff rfl (OP.store1 sz4 rfl rfl rfl rfl hR (Nat.le_of_ble_eq_true rfl) rfl ?_)
    intro w10 hcs _ hR
    have hC := hC.trans hcs
    have hS := hS.kept hcs (fun g o h => (hg g o h).1)
    have hG := hG.kept hcs (by omega)
    have hsz := Nat.le_trans hsz hcs.size
    have hB2 := hcs.at hB2 (by omega)
    have hB3 := hcs.at hB3 (by omega)
    refine WL.next ?_
    refine CW.rseq ?_  -- region 7
    refine WL.op (by decide) (R.build (parts := []) (vals := []) rfl (fun w => build57_0 w)) ?_  -- msg.go:216 t47 := (Op.build 57 [])
    refine WL.eff rfl (OP.storeR (r := ⟨[], 0, 0, zero16, [], []⟩) rfl rfl rfl rfl hB2 ?_)
    intro w11 hc11 hs11 hB2
    have hC := hC.then hc11 (fun k hk e => by omega)
    have hR := hc11.at hR (by omega)
    refine WL.next ?_
    refine CW.ret ?_
    refine EW.thenRet ?_
    exact EW.retC (.inl rfl) rfl rfl (cs := Rec.cells ⟨[], 0, 0, zero16, [], []⟩) Tryd.underlying57 rfl sz57 (fun j u hj => cell_at hB2 (by rw [List.getElem?_toArray]; exact hj)) ⟨_, _, true, rfl, rfl, hR, hC, by rw [chain_bad h1 e2 e3 e4 e5 hgd]; rfl, (fun h => by cases h), ⟨by simp, by simp, by simp⟩⟩
  · skip
    obtain ⟨rfl, hgd⟩ := hgd
    refine CW.draw (fun w => RSt w rb A m c a5 false) (by kernel_rfl) ?_
    refine AH.take 0 rfl (by kernel_rfl) (by kernel_rfl) (by kernel_rfl) (fun _ _ _ _ h => h) hR (by decide) (fun w hS => R.move rfl) ?_  -- msg.go:214 t22 := (Op.move t0)
    refine AH.take 1 rfl (by kernel_rfl) (by kernel_rfl) (by kernel_rfl) (fun _ _ _ _ h => h) hR (by decide) (fun w hS => R.nilCheck rfl) ?_  -- msg.go:214 t23 := (Op.nilCheck t22)
    refine AH.take 2 rfl (by kernel_rfl) (by kernel_rfl) (by kernel_rfl) (fun _ _ _ _ h => h) hR (by decide) (fun w hS => FA100_2 rfl) ?_  -- msg.go:214 t24 := (Op.fieldAddr 100 t23 2)
    refine AH.take 3 rfl (by kernel_rfl) (by kernel_rfl) (by kernel_rfl) (fun _ _ _ _ h => h) hR (by decide) (fun w hS => R.load Tryd.underlying4 rfl rfl (cell_at hS rfl)) ?_  -- msg.go:214 t25 := (Op.load 4 t24)
    refine AH.take 4 rfl (by kernel_rfl) (by kernel_rfl) (by kernel_rfl) (fun _ _ _ _ h => h) hR (by decide) (fun w hS => R.move rfl) ?_  -- msg.go:214 t26 := (Op.move t25)
    refine AH.takeG 5 rfl (by kernel_rfl) (by kernel_rfl) (by kernel_rfl) (fun _ _ _ _ h => h) hR (by decide) rfl rfl rfl (fun w hS => R.move rfl) ?_  -- msg.go:214 t27 := (Op.move t4) [guard 4 false]
    refine AH.takeG 6 rfl (by kernel_rfl) (by kernel_rfl) (by kernel_rfl) (fun _ _ _ _ h => h) hR (by decide) rfl rfl rfl (fun w hS => R.neq rfl rfl (c := true) (decide_eq_true (by omega))) ?_  -- msg.go:214 t28 := (Op.binOp BinOp.neq 3 t27 c(Value.int IntKind.i64 1) 3) [guard 4 false]
    refine AH.take 7 rfl (by kernel_rfl) (by kernel_rfl) (by kernel_rfl) (fun _ _ _ _ h => h) hR (by decide) (fun w hS => R.pickF rfl rfl) ?_  -- msg.go:214 t29 := (Op.pick t26 c(Value.bool true) t28)
    refine AH.take 8 rfl (by kernel_rfl) (by kernel_rfl) (by kernel_rfl) (fun _ _ _ _ h => h) hR (by decide) (fun w hS => R.move rfl) ?_  -- msg.go:214 t30 := (Op.move t29)
    refine AH.pass 9 rfl (by kernel_rfl) (by kernel_rfl) (by kernel_rfl) (fun _ _ _ _ h => h) hR (by decide) rfl rfl rfl ?_  -- msg.go:214 t31 := (Op.move t0) [guard 8 false]
    refine AH.pass 10 rfl (by kernel_rfl) (by kernel_rfl) (by kernel_rfl) (fun _ _ _ _ h => h) hR (by decide) rfl rfl rfl ?_  -- msg.go:214 t32 := (Op.nilCheck t31) [guard 8 false]
    refine AH.pass 11 rfl (by kernel_rfl) (by kernel_rfl) (by kernel_rfl) (fun _ _ _ _ h => h) hR (by decide) rfl rfl rfl ?_  -- msg.go:214 t33 := (Op.fieldAddr 100 t32 1) [guard 8 false]
    refine AH.pass 12 rfl (by kernel_rfl) (by kernel_rfl) (by kernel_rfl) (fun _ _ _ _ h => h) hR (by decide) rfl rfl rfl ?_  -- msg.go:214 t34 := (Op.load 3 t33) [guard 8 false]
    refine AH.pass 13 rfl (by kernel_rfl) (by kernel_rfl) (by kernel_rfl) (fun _ _ _ _ h => h) hR (by decide) rfl rfl rfl ?_  -- msg.go:214 t35 := (Op.move t5) [guard 8 false]
    refine AH.pass 14 rfl (by kernel_rfl) (by kernel_rfl) (by kernel_rfl) (fun _ _ _ _ h => h) hR (by decide) rfl rfl rfl ?_  -- msg.go:214 t36 := (Op.binOp BinOp.add 3 t34 t35 3) [guard 8 false]
    refine AH.pass 15 rfl (by kernel_rfl) (by kernel_rfl) (by kernel_rfl) (fun _ _ _ _ h => h) hR (by decide) rfl rfl rfl ?_  -- msg.go:214 t37 := (Op.move t0) [guard 8 false]
    refine AH.pass 16 rfl (by kernel_rfl) (by kernel_rfl) (by kernel_rfl) (fun _ _ _ _ h => h) hR (by decide) rfl rfl rfl ?_  -- msg.go:214 t38 := (Op.nilCheck t37) [guard 8 false]
    refine AH.pass 17 rfl (by kernel_rfl) (by kernel_rfl) (by kernel_rfl) (fun _ _ _ _ h => h) hR (by decide) rfl rfl rfl ?_  -- msg.go:214 t39 := (Op.fieldAddr 100 t38 0) [guard 8 false]
    refine AH.pass 18 rfl (by kernel_rfl) (by kernel_rfl) (by kernel_rfl) (fun _ _ _ _ h => h) hR (by decide) rfl rfl rfl ?_  -- msg.go:214 t40 := (Op.load 36 t39) [guard 8 false]
    refine AH.pass 19 rfl (by kernel_rfl) (by kernel_rfl) (by kernel_rfl) (fun _ _ _ _ h => h) hR (by decide) rfl rfl rfl ?_  -- msg.go:214 t41 := (Op.call (Call.mk (Callee.builtin Builtin.len) [t40] [36])) [guard 8 false]
    refine AH.pass 20 rfl (by kernel_rfl) (by kernel_rfl) (by kernel_rfl) (fun _ _ _ _ h => h) hR (by decide) rfl rfl rfl ?_  -- msg.go:214 t42 := (Op.binOp BinOp.gtr 3 t36 t41 3) [guard 8 false]
    refine AH.take 21 rfl (by kernel_rfl) (by kernel_rfl) (by kernel_rfl) (fun _ _ _ _ h => h) hR (by decide) (fun w hS => R.pickT rfl rfl) ?_  -- msg.go:214 t43 := (Op.pick t30 c(Value.bool true) t42)
    refine AH.done (by kernel_rfl) ?_
    have hC := hC.trans (Chg.drew _ _)
    have hS := hS.kept (Chg.drew (fun _ => False) _) (fun _ _ _ h => h)
    have hG := hG.kept (Chg.drew (fun _ => False) _) (fun h => h)
    have hsz := Nat.le_trans hsz (Chg.drew (fun _ => False) _).size
    replace hgd : (false = true ∨ (false = false ∧ v3 ≠ 1) ∨ (false = false ∧ bs.length < a5 + v5)) := .inr (.inl ⟨rfl, hgd⟩)
    refine EW.next ?_
    refine CW.condT rfl ?_
    refine CW.rseq ?_  -- region 6
    refine WL.op (by decide) (R.move rfl) ?_  -- msg.go:215 t44 := (Op.move t0)
    refine WL.op (by decide) (R.nilCheck rfl) ?_  -- msg.go:215 t45 := (Op.nilCheck t44)
    refine WL.op (by decide) (FA100_2 rfl) ?_  -- msg.go:215 t46 := (Op.fieldAddr 100 t45 2)
    refine WL.eff rfl (OP.store1 sz4 rfl rfl rfl rfl hR (Nat.le_of_ble_eq_true rfl) rfl ?_)
    intro w10 hcs _ hR
    have hC := hC.trans hcs
    have hS := hS.kept hcs (fun g o h => (hg g o h).1)
    have hG := hG.kept hcs (by omega)
    have hsz := Nat.le_trans hsz hcs.size
    have hB2 := hcs.at hB2 (by omega)
    have hB3 := hcs.at hB3 (by omega)
    refine WL.next ?_
    refine CW.rseq ?_  -- region 7
    refine WL.op (by decide) (R.build (parts := []) (vals := []) rfl (fun w => build57_0 w)) ?_  -- msg.go:216 t47 := (Op.build 57 [])
    refine WL.eff rfl (OP.storeR (r := ⟨[], 0, 0, zero16, [], []⟩) rfl rfl rfl rfl hB2 ?_)
    intro w11 hc11 hs11 hB2
    have hC := hC.then hc11 (fun k hk e => by omega)
    have hR := hc11.at hR (by omega)
    refine WL.next ?_
    refine CW.ret ?_
    refine EW.thenRet ?_
    exact EW.retC (.inl rfl) rfl rfl (cs := Rec.cells ⟨[], 0, 0, zero16, [], []⟩) Tryd.underlying57 rfl sz57 (fun j u hj => cell_at hB2 (by rw [List.getElem?_toArray]; exact hj)) ⟨_, _, true, rfl, rfl, hR, hC, by rw [chain_bad h1 e2 e3 e4 e5 hgd]; rfl, (fun h => by cases h), ⟨by simp, by simp, by simp⟩⟩
  · skip
    obtain ⟨rfl, hgv, hgd⟩ := hgd
    have hin5 := hin9 rfl
    have hv5 := numR_lt2 e5
    refine CW.draw (fun w => RSt w rb A m c a5 false) (by kernel_rfl) ?_
    refine AH.take 0 rfl (by kernel_rfl) (by kernel_rfl) (by kernel_rfl) (fun _ _ _ _ h => h) hR (by decide) (fun w hS => R.move rfl) ?_  -- msg.go:214 t22 := (Op.move t0)
    refine AH.take 1 rfl (by kernel_rfl) (by kernel_rfl) (by kernel_rfl) (fun _ _ _ _ h => h) hR (by decide) (fun w hS => R.nilCheck rfl) ?_  -- msg.go:214 t23 := (Op.nilCheck t22)
    refine AH.take 2 rfl (by kernel_rfl) (by kernel_rfl) (by kernel_rfl) (fun _ _ _ _ h => h) hR (by decide) (fun w hS => FA100_2 rfl) ?_  -- msg.go:214 t24 := (Op.fieldAddr 100 t23 2)
    refine AH.take 3 rfl (by kernel_rfl) (by kernel_rfl) (by kernel_rfl) (fun _ _ _ _ h => h) hR (by decide) (fun w hS => R.load Tryd.underlying4 rfl rfl (cell_at hS rfl)) ?_  -- msg.go:214 t25 := (Op.load 4 t24)
    refine AH.take 4 rfl (by kernel_rfl) (by kernel_rfl) (by kernel_rfl) (fun _ _ _ _ h => h) hR (by decide) (fun w hS => R.move rfl) ?_  -- msg.go:214 t26 := (Op.move t25)
    refine AH.takeG 5 rfl (by kernel_rfl) (by kernel_rfl) (by kernel_rfl) (fun _ _ _ _ h => h) hR (by decide) rfl rfl rfl (fun w hS => R.move rfl) ?_  -- msg.go:214 t27 := (Op.move t4) [guard 4 false]
    refine AH.takeG 6 rfl (by kernel_rfl) (by kernel_rfl) (by kernel_rfl) (fun _ _ _ _ h => h) hR (by decide) rfl rfl rfl (fun w hS => R.neq rfl rfl (c := false) (decide_eq_false (by omega))) ?_  -- msg.go:214 t28 := (Op.binOp BinOp.neq 3 t27 c(Value.int IntKind.i64 1) 3) [guard 4 false]
    refine AH.take 7 rfl (by kernel_rfl) (by kernel_rfl) (by kernel_rfl) (fun _ _ _ _ h => h) hR (by decide) (fun w hS => R.pickF rfl rfl) ?_  -- msg.go:214 t29 := (Op.pick t26 c(Value.bool true) t28)
    refine AH.take 8 rfl (by kernel_rfl) (by kernel_rfl) (by kernel_rfl) (fun _ _ _ _ h => h) hR (by decide) (fun w hS => R.move rfl) ?_  -- msg.go:214 t30 := (Op.move t29)
    refine AH.takeG 9 rfl (by kernel_rfl) (by kernel_rfl) (by kernel_rfl) (fun _ _ _ _ h => h) hR (by decide) rfl rfl rfl (fun w hS => R.move rfl) ?_  -- msg.go:214 t31 := (Op.move t0) [guard 8 false]
    refine AH.takeG 10 rfl (by kernel_rfl) (by kernel_rfl) (by kernel_rfl) (fun _ _ _ _ h => h) hR (by decide) rfl rfl rfl (fun w hS => R.nilCheck rfl) ?_  -- msg.go:214 t32 := (Op.nilCheck t31) [guard 8 false]
    refine AH.takeG 11 rfl (by kernel_rfl) (by kernel_rfl) (by kernel_rfl) (fun _ _ _ _ h => h) hR (by decide) rfl rfl rfl (fun w hS => FA100_1 rfl) ?_  -- msg.go:214 t33 := (Op.fieldAddr 100 t32 1) [guard 8 false]
    refine AH.takeG 12 rfl (by kernel_rfl) (by kernel_rfl) (by kernel_rfl) (fun _ _ _ _ h => h) hR (by decide) rfl rfl rfl (fun w hS => R.load Tryd.underlying3 rfl rfl (cell_at hS rfl)) ?_  -- msg.go:214 t34 := (Op.load 3 t33) [guard 8 false]
    refine AH.takeG 13 rfl (by kernel_rfl) (by kernel_rfl) (by kernel_rfl) (fun _ _ _ _ h => h) hR (by decide) rfl rfl rfl (fun w hS => R.move rfl) ?_  -- msg.go:214 t35 := (Op.move t5) [guard 8 false]
    refine AH.takeG 14 rfl (by kernel_rfl) (by kernel_rfl) (by kernel_rfl) (fun _ _ _ _ h => h) hR (by decide) rfl rfl rfl (fun w hS => R.add rfl rfl (by omega)) ?_  -- msg.go:214 t36 := (Op.binOp BinOp.add 3 t34 t35 3) [guard 8 false]
    refine AH.takeG 15 rfl (by kernel_rfl) (by kernel_rfl) (by kernel_rfl) (fun _ _ _ _ h => h) hR (by decide) rfl rfl rfl (fun w hS => R.move rfl) ?_  -- msg.go:214 t37 := (Op.move t0) [guard 8 false]
    refine AH.takeG 16 rfl (by kernel_rfl) (by kernel_rfl) (by kernel_rfl) (fun _ _ _ _ h => h) hR (by decide) rfl rfl rfl (fun w hS => R.nilCheck rfl) ?_  -- msg.go:214 t38 := (Op.nilCheck t37) [guard 8 false]
    refine AH.takeG 17 rfl (by kernel_rfl) (by kernel_rfl) (by kernel_rfl) (fun _ _ _ _ h => h) hR (by decide) rfl rfl rfl (fun w hS => FA100_0 rfl) ?_  -- msg.go:214 t39 := (Op.fieldAddr 100 t38 0) [guard 8 false]
    refine AH.takeG 18 rfl (by kernel_rfl) (by kernel_rfl) (by kernel_rfl) (fun _ _ _ _ h => h) hR (by decide) rfl rfl rfl (fun w hS => R.load Tryd.underlying36 rfl rfl (cell_at hS rfl)) ?_  -- msg.go:214 t40 := (Op.load 36 t39) [guard 8 false]
    refine AH.takeG 19 rfl (by kernel_rfl) (by kernel_rfl) (by kernel_rfl) (fun _ _ _ _ h => h) hR (by decide) rfl rfl rfl (fun w hS => R.lenSlice rfl Tryd.underlying36 rfl) ?_  -- msg.go:214 t41 := (Op.call (Call.mk (Callee.builtin Builtin.len) [t40] [36])) [guard 8 false]
    refine AH.takeG 20 rfl (by kernel_rfl) (by kernel_rfl) (by kernel_rfl) (fun _ _ _ _ h => h) hR (by decide) rfl rfl rfl (fun w hS => R.gtr rfl rfl (c := true) (decide_eq_true (by omega))) ?_  -- msg.go:214 t42 := (Op.binOp BinOp.gtr 3 t36 t41 3) [guard 8 false]
    refine AH.take 21 rfl (by kernel_rfl) (by kernel_rfl) (by kernel_rfl) (fun _ _ _ _ h => h) hR (by decide) (fun w hS => R.pickF rfl rfl) ?_  -- msg.go:214 t43 := (Op.pick t30 c(Value.bool true) t42)
    refine AH.done (by kernel_rfl) ?_
    have hC := hC.trans (Chg.drew _ _)
    have hS := hS.kept (Chg.drew (fun _ => False) _) (fun _ _ _ h => h)
    have hG := hG.kept (Chg.drew (fun _ => False) _) (fun h => h)
    have hsz := Nat.le_trans hsz (Chg.drew (fun _ => False) _).size
    replace hgd : (false = true ∨ (false = false ∧ v3 ≠ 1) ∨ (false = false ∧ bs.length < a5 + v5)) := .inr (.inr ⟨rfl, hgd⟩)
    refine EW.next ?_
    refine CW.condT rfl ?_
    refine CW.rseq ?_  -- region 6
    refine WL.op (by decide) (R.move rfl) ?_  -- msg.go:215 t44 := (Op.move t0)
    refine WL.op (by decide) (R.nilCheck rfl) ?_  -- msg.go:215 t45 := (Op.nilCheck t44)
    refine WL.op (by decide) (FA100_2 rfl) ?_  -- msg.go:215 t46 := (Op.fieldAddr 100 t45 2)
    refine WL.eff rfl (OP.store1 sz4 rfl rfl rfl rfl hR (Nat.le_of_ble_eq_true rfl) rfl ?_)
    intro w10 hcs _ hR
    have hC := hC.trans hcs
    have hS := hS.kept hcs (fun g o h => (hg g o h).1)
    have hG := hG.kept hcs (by omega)
    have hsz := Nat.le_trans hsz hcs.size
    have hB2 := hcs.at hB2 (by omega)
    have hB3 := hcs.at hB3 (by omega)
    refine WL.next ?_
    refine CW.rseq ?_  -- region 7
    refine WL.op (by decide) (R.build (parts := []) (vals := []) rfl (fun w => build57_0 w)) ?_  -- msg.go:216 t47 := (Op.build 57 [])
    refine WL.eff rfl (OP.storeR (r := ⟨[], 0, 0, zero16, [], []⟩) rfl rfl rfl rfl hB2 ?_)
    intro w11 hc11 hs11 hB2
    have hC := hC.then hc11 (fun k hk e => by omega)
    have hR := hc11.at hR (by omega)
    refine WL.next ?_
    refine CW.ret ?_
    refine EW.thenRet ?_
    exact EW.retC (.inl rfl) rfl rfl (cs := Rec.cells ⟨[], 0, 0, zero16, [], []⟩) Tryd.underlying57 rfl sz57 (fun j u hj => cell_at hB2 (by rw [List.getElem?_toArray]; exact hj)) ⟨_, _, true, rfl, rfl, hR, hC, by rw [chain_bad h1 e2 e3 e4 e5 hgd]; rfl, (fun h => by cases h), ⟨by simp, by simp, by simp⟩⟩
  · skip
    obtain ⟨rfl, hgv, hgd⟩ := hgd
    have hin5 := hin9 rfl
    have hv5 := numR_lt2 e5
    refine CW.draw (fun w => RSt w rb A m c a5 false) (by kernel_rfl) ?_
    refine AH.take 0 rfl (by kernel_rfl) (by kernel_rfl) (by kernel_rfl) (fun _ _ _ _ h => h) hR (by decide) (fun w hS => R.move rfl) ?_  -- msg.go:214 t22 := (Op.move t0)
    refine AH.take 1 rfl (by kernel_rfl) (by kernel_rfl) (by kernel_rfl) (fun _ _ _ _ h => h) hR (by decide) (fun w hS => R.nilCheck rfl) ?_  -- msg.go:214 t23 := (Op.nilCheck t22)
    refine AH.take 2 rfl (by kernel_rfl) (by kernel_rfl) (by kernel_rfl) (fun _ _ _ _ h => h) hR (by decide) (fun w hS => FA100_2 rfl) ?_  -- msg.go:214 t24 := (Op.fieldAddr 100 t23 2)
    refine AH.take 3 rfl (by kernel_rfl) (by kernel_rfl) (by kernel_rfl) (fun _ _ _ _ h => h) hR (by decide) (fun w hS => R.load Tryd.underlying4 rfl rfl (cell_at hS rfl)) ?_  -- msg.go:214 t25 := (Op.load 4 t24)
    refine AH.take 4 rfl (by kernel_rfl) (by kernel_rfl) (by kernel_rfl) (fun _ _ _ _ h => h) hR (by decide) (fun w hS => R.move rfl) ?_  -- msg.go:214 t26 := (Op.move t25)
    refine AH.takeG 5 rfl (by kernel_rfl) (by kernel_rfl) (by kernel_rfl) (fun _ _ _ _ h => h) hR (by decide) rfl rfl rfl (fun w hS => R.move rfl) ?_  -- msg.go:214 t27 := (Op.move t4) [guard 4 false]
    refine AH.takeG 6 rfl (by kernel_rfl) (by kernel_rfl) (by kernel_rfl) (fun _ _ _ _ h => h) hR (by decide) rfl rfl rfl (fun w hS => R.neq rfl rfl (c := false) (decide_eq_false (by omega))) ?_  -- msg.go:214 t28 := (Op.binOp BinOp.neq 3 t27 c(Value.int IntKind.i64 1) 3) [guard 4 false]
    refine AH.take 7 rfl (by kernel_rfl) (by kernel_rfl) (by kernel_rfl) (fun _ _ _ _ h => h) hR (by decide) (fun w hS => R.pickF rfl rfl) ?_  -- msg.go:214 t29 := (Op.pick t26 c(Value.bool true) t28)
    refine AH.take 8 rfl (by kernel_rfl) (by kernel_rfl) (by kernel_rfl) (fun _ _ _ _ h => h) hR (by decide) (fun w hS => R.move rfl) ?_  -- msg.go:214 t30 := (Op.move t29)
    refine AH.takeG 9 rfl (by kernel_rfl) (by kernel_rfl) (by kernel_rfl) (fun _ _ _ _ h => h) hR (by decide) rfl rfl rfl (fun w hS => R.move rfl) ?_  -- msg.go:214 t31 := (Op.move t0) [guard 8 false]
    refine AH.takeG 10 rfl (by kernel_rfl) (by kernel_rfl) (by kernel_rfl) (fun _ _ _ _ h => h) hR (by decide) rfl rfl rfl (fun w hS => R.nilCheck rfl) ?_  -- msg.go:214 t32 := (Op.nilCheck t31) [guard 8 false]
    refine AH.takeG 11 rfl (by kernel_rfl) (by kernel_rfl) (by kernel_rfl) (fun _ _ _ _ h => h) hR (by decide) rfl rfl rfl (fun w hS => FA100_1 rfl) ?_  -- msg.go:214 t33 := (Op.fieldAddr 100 t32 1) [guard 8 false]
    refine AH.takeG 12 rfl (by kernel_rfl) (by kernel_rfl) (by kernel_rfl) (fun _ _ _ _ h => h) hR (by decide) rfl rfl rfl (fun w hS => R.load Tryd.underlying3 rfl rfl (cell_at hS rfl)) ?_  -- msg.go:214 t34 := (Op.load 3 t33) [guard 8 false]
    refine AH.takeG 13 rfl (by kernel_rfl) (by kernel_rfl) (by kernel_rfl) (fun _ _ _ _ h => h) hR (by decide) rfl rfl rfl (fun w hS => R.move rfl) ?_  -- msg.go:214 t35 := (Op.move t5) [guard 8 false]
    refine AH.takeG 14 rfl (by kernel_rfl) (by kernel_rfl) (by kernel_rfl) (fun _ _ _ _ h => h) hR (by decide) rfl rfl rfl (fun w hS => R.add rfl rfl (by omega)) ?_  -- msg.go:214 t36 := (Op.binOp BinOp.add 3 t34 t35 3) [guard 8 false]
    refine AH.takeG 15 rfl (by kernel_rfl) (by kernel_rfl) (by kernel_rfl) (fun _ _ _ _ h => h) hR (by decide) rfl rfl rfl (fun w hS => R.move rfl) ?_  -- msg.go:214 t37 := (Op.move t0) [guard 8 false]
    refine AH.takeG 16 rfl (by kernel_rfl) (by kernel_rfl) (by kernel_rfl) (fun _ _ _ _ h => h) hR (by decide) rfl rfl rfl (fun w hS => R.nilCheck rfl) ?_  -- msg.go:214 t38 := (Op.nilCheck t37) [guard 8 false]
    refine AH.takeG 17 rfl (by kernel_rfl) (by kernel_rfl) (by kernel_rfl) (fun _ _ _ _ h => h) hR (by decide) rfl rfl rfl (fun w hS => FA100_0 rfl) ?_  -- msg.go:214 t39 := (Op.fieldAddr 100 t38 0) [guard 8 false]
    refine AH.takeG 18 rfl (by kernel_rfl) (by kernel_rfl) (by kernel_rfl) (fun _ _ _ _ h => h) hR (by decide) rfl rfl rfl (fun w hS => R.load Tryd.underlying36 rfl rfl (cell_at hS rfl)) ?_  -- msg.go:214 t40 := (Op.load 36 t39) [guard 8 false]
    refine AH.takeG 19 rfl (by kernel_rfl) (by kernel_rfl) (by kernel_rfl) (fun _ _ _ _ h => h) hR (by decide) rfl rfl rfl (fun w hS => R.lenSlice rfl Tryd.underlying36 rfl) ?_  -- msg.go:214 t41 := (Op.call (Call.mk (Callee.builtin Builtin.len) [t40] [36])) [guard 8 false]
    refine AH.takeG 20 rfl (by kernel_rfl) (by kernel_rfl) (by kernel_rfl) (fun _ _ _ _ h => h) hR (by decide) rfl rfl rfl (fun w hS => R.gtr rfl rfl (c := false) (decide_eq_false (by omega))) ?_  -- msg.go:214 t42 := (Op.binOp BinOp.gtr 3 t36 t41 3) [guard 8 false]
    refine AH.take 21 rfl (by kernel_rfl) (by kernel_rfl) (by kernel_rfl) (fun _ _ _ _ h => h) hR (by decide) (fun w hS => R.pickF rfl rfl) ?_  -- msg.go:214 t43 := (Op.pick t30 c(Value.bool true) t42)
    refine AH.done (by kernel_rfl) ?_
    have hC := hC.trans (Chg.drew _ _)
    have hS := hS.kept (Chg.drew (fun _ => False) _) (fun _ _ _ h => h)
    have hG := hG.kept (Chg.drew (fun _ => False) _) (fun h => h)
    have hsz := Nat.le_trans hsz (Chg.drew (fun _ => False) _).size
    have hbody := chain_body h1 e2 e3 e4 e5 hgv hgd
    have ha5 := (chain_ok h1 e2 e3 e4 e5 rfl).2.2.2.1
    obtain ⟨g, o, rfl, hcell⟩ := hS.cells (by omega)
    have hgg := hg g o rfl
    have hcap := hS.cap
    refine EW.next ?_
    refine CW.condF rfl ?_
    refine CW.skip ?_
    refine EW.next ?_
    refine CW.rseq ?_  -- region 8
    refine WL.op (by decide) (R.move rfl) ?_  -- msg.go:218 t48 := (Op.move t0)
    refine WL.op (by decide) (R.nilCheck rfl) ?_  -- msg.go:218 t49 := (Op.nilCheck t48)
    refine WL.op (by decide) (FA100_1 rfl) ?_  -- msg.go:218 t50 := (Op.fieldAddr 100 t49 1)
    refine WL.op (by decide) (R.load Tryd.underlying3 rfl rfl (cell_at hR rfl)) ?_  -- msg.go:218 t51 := (Op.load 3 t50)
    refine WL.op (by decide) (R.move rfl) ?_  -- msg.go:218 t52 := (Op.move t5)
    refine WL.op (by decide) (R.add rfl rfl (by omega)) ?_  -- msg.go:218 t53 := (Op.binOp BinOp.add 3 t51 t52 3)
    refine WL.op (by decide) (R.assign rfl) ?_  -- msg.go:218 t6 := (Op.assign t53)
    refine WL.next ?_
    refine CW.seq ?_
    refine CW.draw (fun w => RSt w rb (some ⟨g, o, none⟩) m c a5 false) (by kernel_rfl) ?_
    refine AH.take 0 rfl (by kernel_rfl) (by kernel_rfl) (by kernel_rfl) (fun _ _ _ _ h => h) hR (by decide) (fun w hS => R.move rfl) ?_  -- msg.go:219 t54 := (Op.move t0)
    refine AH.take 1 rfl (by kernel_rfl) (by kernel_rfl) (by kernel_rfl) (fun _ _ _ _ h => h) hR (by decide) (fun w hS => R.nilCheck rfl) ?_  -- msg.go:219 t55 := (Op.nilCheck t54)
    refine AH.take 2 rfl (by kernel_rfl) (by kernel_rfl) (by kernel_rfl) (fun _ _ _ _ h => h) hR (by decide) (fun w hS => FA100_0 rfl) ?_  -- msg.go:219 t56 := (Op.fieldAddr 100 t55 0)
    refine AH.take 3 rfl (by kernel_rfl) (by kernel_rfl) (by kernel_rfl) (fun _ _ _ _ h => h) hR (by decide) (fun w hS => R.load Tryd.underlying36 rfl rfl (cell_at hS rfl)) ?_  -- msg.go:219 t57 := (Op.load 36 t56)
    refine AH.take 4 rfl (by kernel_rfl) (by kernel_rfl) (by kernel_rfl) (fun _ _ _ _ h => h) hR (by decide) (fun w hS => R.move rfl) ?_  -- msg.go:219 t58 := (Op.move t0)
    refine AH.take 5 rfl (by kernel_rfl) (by kernel_rfl) (by kernel_rfl) (fun _ _ _ _ h => h) hR (by decide) (fun w hS => R.nilCheck rfl) ?_  -- msg.go:219 t59 := (Op.nilCheck t58)
    refine AH.take 6 rfl (by kernel_rfl) (by kernel_rfl) (by kernel_rfl) (fun _ _ _ _ h => h) hR (by decide) (fun w hS => FA100_1 rfl) ?_  -- msg.go:219 t60 := (Op.fieldAddr 100 t59 1)
    refine AH.take 7 rfl (by kernel_rfl) (by kernel_rfl) (by kernel_rfl) (fun _ _ _ _ h => h) hR (by decide) (fun w hS => R.load Tryd.underlying3 rfl rfl (cell_at hS rfl)) ?_  -- msg.go:219 t61 := (Op.load 3 t60)
    refine AH.take 8 rfl (by kernel_rfl) (by kernel_rfl) (by kernel_rfl) (fun _ _ _ _ h => h) hR (by decide) (fun w hS => R.move rfl) ?_  -- msg.go:219 t62 := (Op.move t6)
    refine AH.take 9 rfl (by kernel_rfl) (by kernel_rfl) (by kernel_rfl) (fun _ _ _ _ h => h) hR (by decide) (fun w hS => R.sliceSl Tryd.underlying36 sz5 rfl rfl rfl rfl (hi := a5 + v5) (by omega) (Nat.le_add_right _ _) (by omega)) ?_  -- msg.go:219 t63 := (Op.slice 36 t57 (some t61) (some t62) none)
    refine AH.take 10 rfl (by kernel_rfl) (by kernel_rfl) (by kernel_rfl) (fun _ _ _ _ h => h) hR (by decide) (fun w hS => R.assign rfl) ?_  -- msg.go:219 t7 := (Op.assign t63)
    refine AH.done (by kernel_rfl) ?_
    obtain ⟨dat, hdat0⟩ : ∃ dat, dat = (bs.drop a5).take v5 := ⟨_, rfl⟩
    have hdl : dat.length = v5 := by rw [hdat0, List.length_take, List.length_drop]; omega
    obtain ⟨g2, o2, hPe, hg2, hdat⟩ := data_at (c := c) (v := v5) hcell (by omega) (by omega)
    rw [← hdat0] at hdat
    rw [hPe, Nat.add_sub_cancel_left]
    obtain rfl := hg2
    have hC := hC.trans (Chg.drew _ _)
    have hS := hS.kept (Chg.drew (fun _ => False) _) (fun _ _ _ h => h)
    have hG := hG.kept (Chg.drew (fun _ => False) _) (fun h => h)
    have hsz := Nat.le_trans hsz (Chg.drew (fun _ => False) _).size
    refine EW.next ?_
    refine CW.cut (fun l wr => ∃ (r : Rec) (a' : Nat) (b' : Bool), l = [(0, .pointer (some ⟨rb, 0, none⟩)), (2, .pointer (some ⟨w.heap.size, 0, none⟩)), (3, .pointer (some ⟨w3.heap.size, 0, none⟩)), (6, .int .i64 ((a5 : Int) + (v5 : Int)))] ∧ r.addr.length = 16 ∧ r.small ∧ RSt wr rb (some ⟨g, o, none⟩) m c a' b' ∧ Chg (fun k => k = rb) w wr ∧ Glob wr ∧ w4.heap.size ≤ wr.heap.size ∧ wr.heap[w.heap.size]? = some (.cells (Rec.cells ⟨[], 0, 0, zero16, [], []⟩).toArray 57 (0, 0)) ∧ wr.heap[w3.heap.size]? = some (.cells r.cells.toArray 57 (0, 0)) ∧ BodyRes (recBody bs s v2 (ttlOf v4) a5 v5) r b') ?_ ?_
    · -- the cut part
      refine CW.block ?_
      refine CW.rseq ?_  -- region 11
      refine WL.op (by decide) (FA57_1 rfl) ?_  -- msg.go:221 t68 := (Op.fieldAddr 57 t3 1)
      refine WL.op (by decide) (R.load (v := .int .i64 (v2 : Int)) Tryd.underlying3 rfl rfl (cell_at hB3 (Rec.at1 _))) ?_  -- msg.go:221 t69 := (Op.load 3 t68)
      refine WL.eqlS (by decide) rfl rfl (fun h1 => ?_) (fun h1 => ?_)  -- msg.go:221 t70 := (Op.binOp BinOp.eql 3 t69 c(Value.int IntKind.i64 1) 3)
      · skip
        refine WL.op (by decide) (R.move rfl) ?_  -- msg.go:221 t71 := (Op.move t70)
        refine WL.gop (by decide) rfl rfl rfl (R.move rfl) ?_  -- msg.go:221 t72 := (Op.move t5) [guard 3 true]
        refine WL.gsplit _ (by decide) rfl rfl rfl (R.eqlD rfl rfl) (fun h2 => ?_) (fun h2 => ?_)  -- msg.go:221 t73 := (Op.binOp BinOp.eql 3 t72 c(Value.int IntKind.i64 4) 3) [guard 3 true]
        · skip
          refine WL.op (by decide) (R.pickT rfl rfl) ?_  -- msg.go:221 t74 := (Op.pick t71 t73 c(Value.bool false))
          refine WL.op (by decide) (R.assign rfl) ?_  -- msg.go:221 t67 := (Op.assign t74)
          refine WL.next ?_
          refine CW.condT rfl ?_
          refine CW.rseq ?_  -- region 12
          refine WL.op (by decide) (R.loadAgg1 (cs := mappedL.map u8v) Tryd.underlying108 rfl sz108 rfl (fun j u hj => by rw [Nat.zero_add]; exact hG j u hj)) ?_  -- msg.go:222 t75 := (Op.load 108 (Operand.global 0))
          refine WL.eff rfl (OP.alloc1 (.agg ((List.replicate 12 (0 : UInt8)).map u8v).toArray) (by decide) (by kernel_rfl) ?_)
          intro w12 hc12 hs12 hB8
          have hC := hC.trans (hc12.mono (fun _ _ h => h.elim))
          have hS := hS.kept hc12 (fun _ _ _ h => h)
          have hG := hG.kept hc12 (fun h => h)
          have hR := hc12.at hR (fun h => h)
          have hB2 := hc12.at hB2 (fun h => h)
          have hB3 := hc12.at hB3 (fun h => h)
          have hdat : ∀ (j : Nat) (b : UInt8), dat[j]? = some b → w12.cell? ⟨g, o2 + j, none⟩ = some (u8v b) := fun j b hj => cell_chg hc12 (hdat j b hj) (fun h => h)
          have hsz12 := hsz
          have hsz := Nat.le_trans hsz hc12.size
          refine WL.eff rfl (OP.storeAgg (cells := (mappedL.map u8v).toArray) inf108.choose_spec.1 (by rw [inf108.choose_spec.2]; rfl) rfl rfl (u8v_all _) hB8 rfl ?_)
          intro w13 hc13 hs13 hB8
          have hC := hC.then hc13 (fun k hk e => by omega)
          have hS := hS.kept hc13 (fun g o h e => by have := hg g o h; omega)
          have hG := hG.kept hc13 (by omega)
          have hR := hc13.at hR (by omega)
          have hB2 := hc13.at hB2 (by omega)
          have hB3 := hc13.at hB3 (by omega)
          have hdat : ∀ (j : Nat) (b : UInt8), dat[j]? = some b → w13.cell? ⟨g, o2 + j, none⟩ = some (u8v b) := fun j b hj => cell_chg hc13 (hdat j b hj) (by omega)
          have hsz := Nat.le_trans hsz hc13.size
          refine WL.next ?_
          refine CW.draw (fun _ => True) (by kernel_rfl) ?_
          have hC := hC.trans (Chg.drew _ _)
          have hS := hS.kept (Chg.drew (fun _ => False) _) (fun _ _ _ h => h)
          have hG := hG.kept (Chg.drew (fun _ => False) _) (fun h => h)
          have hsz := Nat.le_trans hsz (Chg.drew (fun _ => False) _).size
          refine AH.take 0 rfl (by kernel_rfl) (by kernel_rfl) (by kernel_rfl) (fun _ _ _ _ h => h) trivial (by decide) (fun w hS => FA57_3 rfl) ?_  -- msg.go:223 t76 := (Op.fieldAddr 57 t3 3)
          refine AH.take 1 rfl (by kernel_rfl) (by kernel_rfl) (by kernel_rfl) (fun _ _ _ _ h => h) trivial (by decide) (fun w hS => R.sliceArr (lv := none) (hv := none) (l1 := 0) (h1 := 16) Tryd.underlying27 sz5 rfl rfl rfl (by kernel_rfl) (by decide)) ?_  -- msg.go:223 t77 := (Op.slice 27 t76 none none none)
          refine AH.take 2 rfl (by kernel_rfl) (by kernel_rfl) (by kernel_rfl) (fun _ _ _ _ h => h) trivial (by decide) (fun w hS => R.sliceArrM (h1 := 12) (c1 := 12) Tryd.underlying108 sz5 rfl rfl rfl (by kernel_rfl) (by decide)) ?_  -- msg.go:223 t78 := (Op.slice 108 t8 none (some c(Value.int IntKind.i64 12)) (some c(Value.int IntKind.i64 12)
          refine AH.take 3 rfl (by kernel_rfl) (by kernel_rfl) (by kernel_rfl) (fun _ _ _ _ h => h) trivial (by decide) (fun w hS => R.move rfl) ?_  -- msg.go:223 t79 := (Op.move t7)
          refine AH.eff 4 (by kernel_rfl) rfl rfl (OP.appendFull (olds := mappedL) (news := dat) (by decide) rfl rfl (fun j u hj => cell_at hB8 (by rw [List.getElem?_toArray, Nat.zero_add]; exact hj)) hdl (by omega) (cells_at hdat) (by rw [hdl]; simp [mappedL]; omega) ?_)
          intro v6 w14 hBf hc14
          refine ⟨trivial, ?_⟩
          have hl16 : (mappedL ++ dat).length = 16 := by rw [List.length_append, hdl]; simp [mappedL]; omega
          obtain ⟨g3, cap3, rfl, _, _, _, hcell3⟩ := hBf.open (by intro h; rw [h] at hl16; cases hl16)
          have hC := hC.trans (hc14.mono (fun _ _ h => h.elim))
          have hG := hG.kept hc14 (fun h => h)
          have hR := hc14.at hR (fun h => h)
          have hB2 := hc14.at hB2 (fun h => h)
          have hB3 := hc14.at hB3 (fun h => h)
          have hsz := Nat.le_trans hsz hc14.size
          refine AH.eff 5 (by kernel_rfl) rfl rfl (OP.copy (cs := mappedL ++ dat) (by decide) rfl rfl hB3 (by rw [hl16]; rfl) (cells_at0 hcell3) (by rw [List.size_toArray, Rec.length rfl, hl16]; decide) ?_)
          intro w15 hcp _ hB3n
          have hB3 := hB3n
          rw [show (mappedL ++ dat).length = 16 from hl16] at hB3
          rw [show (0 + 3 + 0 : Nat) = 3 from rfl, Rec.setAddr rfl (hl16)] at hB3
          have hC := hC.then hcp (fun k hk e => by omega)
          have hG := hG.kept hcp (by omega)
          have hR := hcp.at hR (by omega)
          have hB2 := hcp.at hB2 (by omega)
          have hsz := Nat.le_trans hsz hcp.size
          refine ⟨trivial, ?_⟩
          refine AH.done (by kernel_rfl) ?_
          refine EW.inNormal ?_
          exact EW.cutK [0, 2, 3, 6] ⟨_, a5, false, rfl, by show (mappedL ++ dat).length = 16; rw [List.length_append, hdl]; simp [mappedL]; omega, ⟨hsl, by simp, by simp⟩, hR, hC, hG, hsz, hB2, hB3, by rw [body_a (bs := bs) (nm := s) (ty := v2) (a := a5) (n := v5) (ttl := ttlOf v4) (by omega) (by omega)]; exact ⟨by rw [hdat0]; rfl, rfl⟩⟩
        · skip
          refine WL.op (by decide) (R.pickT rfl rfl) ?_  -- msg.go:221 t74 := (Op.pick t71 t73 c(Value.bool false))
          refine WL.op (by decide) (R.assign rfl) ?_  -- msg.go:221 t67 := (Op.assign t74)
          refine WL.next ?_
          refine CW.condF rfl ?_
          refine CW.rseq ?_  -- region 14
          refine WL.op (by decide) (FA57_1 rfl) ?_  -- msg.go:224 t83 := (Op.fieldAddr 57 t3 1)
          refine WL.op (by decide) (R.load (v := .int .i64 (v2 : Int)) Tryd.underlying3 rfl rfl (cell_at hB3 (Rec.at1 _))) ?_  -- msg.go:224 t84 := (Op.load 3 t83)
          refine WL.eqlS (by decide) rfl rfl (fun h3 => ?_) (fun h3 => ?_)  -- msg.go:224 t85 := (Op.binOp BinOp.eql 3 t84 c(Value.int IntKind.i64 28) 3)
          · skip
            refine WL.op (by decide) (R.move rfl) ?_  -- msg.go:224 t86 := (Op.move t85)
            refine WL.gop (by decide) rfl rfl rfl (R.move rfl) ?_  -- msg.go:224 t87 := (Op.move t5) [guard 3 true]
            refine WL.gsplit _ (by decide) rfl rfl rfl (R.eqlD rfl rfl) (fun h4 => ?_) (fun h4 => ?_)  -- msg.go:224 t88 := (Op.binOp BinOp.eql 3 t87 c(Value.int IntKind.i64 16) 3) [guard 3 true]
            · skip
              refine WL.op (by decide) (R.pickT rfl rfl) ?_  -- msg.go:224 t89 := (Op.pick t86 t88 c(Value.bool false))
              refine WL.op (by decide) (R.assign rfl) ?_  -- msg.go:224 t82 := (Op.assign t89)
              refine WL.next ?_
              refine CW.condT rfl ?_
              refine CW.region ?_  -- region 15
              refine WL.op (by decide) (FA57_3 rfl) ?_  -- msg.go:225 t90 := (Op.fieldAddr 57 t3 3)
              refine WL.op (by decide) (R.sliceArr (lv := none) (hv := none) (l1 := 0) (h1 := 16) Tryd.underlying27 sz5 rfl rfl rfl (by kernel_rfl) (by decide)) ?_  -- msg.go:225 t91 := (Op.slice 27 t90 none none none)
              refine WL.op (by decide) (R.move rfl) ?_  -- msg.go:225 t92 := (Op.move t7)
              refine WL.eff rfl (OP.copy (cs := dat) (by decide) rfl rfl hB3 (by rw [(show dat.length = 16 by omega)]; exact (Nat.min_eq_left (by omega) |>.trans (by omega)).symm) (cells_at hdat) (by rw [List.size_toArray, Rec.length rfl, (show dat.length = 16 by omega)]; decide) ?_)
              intro w14 hcp _ hB3n
              have hB3 := hB3n
              rw [show (dat).length = 16 from (show dat.length = 16 by omega)] at hB3
              rw [show (0 + 3 + 0 : Nat) = 3 from rfl, Rec.setAddr rfl ((show dat.length = 16 by omega))] at hB3
              have hC := hC.then hcp (fun k hk e => by omega)
              have hG := hG.kept hcp (by omega)
              have hR := hcp.at hR (by omega)
              have hB2 := hcp.at hB2 (by omega)
              have hsz := Nat.le_trans hsz hcp.size
              refine WL.nil ?_
              refine EW.inNormal ?_
              exact EW.cutK [0, 2, 3, 6] ⟨_, a5, false, rfl, by show dat.length = 16; omega, ⟨hsl, by simp, by simp⟩, hR, hC, hG, hsz, hB2, hB3, by rw [body_aaaa (bs := bs) (nm := s) (ty := v2) (a := a5) (n := v5) (ttl := ttlOf v4) (by omega) (by omega)]; exact ⟨by rw [hdat0]; rfl, rfl⟩⟩
            · skip
              refine WL.op (by decide) (R.pickT rfl rfl) ?_  -- msg.go:224 t89 := (Op.pick t86 t88 c(Value.bool false))
              refine WL.op (by decide) (R.assign rfl) ?_  -- msg.go:224 t82 := (Op.assign t89)
              refine WL.next ?_
              refine CW.condF rfl ?_
              refine CW.rseq ?_  -- region 16
              refine WL.op (by decide) (FA57_1 rfl) ?_  -- msg.go:226 t95 := (Op.fieldAddr 57 t3 1)
              refine WL.op (by decide) (R.load (v := .int .i64 (v2 : Int)) Tryd.underlying3 rfl rfl (cell_at hB3 (Rec.at1 _))) ?_  -- msg.go:226 t96 := (Op.load 3 t95)
              refine WL.eqlS (by decide) rfl rfl (fun h5 => ?_) (fun h5 => ?_)  -- msg.go:226 t97 := (Op.binOp BinOp.eql 3 t96 c(Value.int IntKind.i64 2) 3)
              · skip
                refine WL.op (by decide) (R.move rfl) ?_  -- msg.go:226 t98 := (Op.move t97)
                refine WL.pass (by decide) rfl rfl rfl ?_  -- msg.go:226 t99 := (Op.fieldAddr 57 t3 1) [guard 3 false]
                refine WL.pass (by decide) rfl rfl rfl ?_  -- msg.go:226 t100 := (Op.load 3 t99) [guard 3 false]
                refine WL.pass (by decide) rfl rfl rfl ?_  -- msg.go:226 t101 := (Op.binOp BinOp.eql 3 t100 c(Value.int IntKind.i64 5) 3) [guard 3 false]
                refine WL.op (by decide) (R.pickT rfl rfl) ?_  -- msg.go:226 t102 := (Op.pick t98 c(Value.bool true) t101)
                refine WL.op (by decide) (R.move rfl) ?_  -- msg.go:226 t103 := (Op.move t102)
                refine WL.pass (by decide) rfl rfl rfl ?_  -- msg.go:226 t104 := (Op.fieldAddr 57 t3 1) [guard 8 false]
                refine WL.pass (by decide) rfl rfl rfl ?_  -- msg.go:226 t105 := (Op.load 3 t104) [guard 8 false]
                refine WL.pass (by decide) rfl rfl rfl ?_  -- msg.go:226 t106 := (Op.binOp BinOp.eql 3 t105 c(Value.int IntKind.i64 12) 3) [guard 8 false]
                refine WL.op (by decide) (R.pickT rfl rfl) ?_  -- msg.go:226 t107 := (Op.pick t103 c(Value.bool true) t106)
                refine WL.op (by decide) (R.assign rfl) ?_  -- msg.go:226 t94 := (Op.assign t107)
                refine WL.next ?_
                refine CW.condT rfl ?_
                refine CW.rseq ?_  -- region 17
                refine WL.op (by decide) (R.move rfl) ?_  -- msg.go:227 t108 := (Op.move t0)
                refine WL.eff rfl (OP.call (by decide) Tryd.func46 (by kernel_rfl) (by kernel_rfl) rfl (rname_st rb _ m c bs a5 false _ hR hS (fun g o h => (hg g o h).1) hin9 hm) ?_)
                rintro ed w14 ⟨s2, a6, b6, rfl, hR, hc14, hn2, hs2l⟩
                refine ⟨_, rfl, ?_⟩
                have hC := hC.trans hc14
                have hS := hS.kept hc14 (fun g o h => (hg g o h).1)
                have hG := hG.kept hc14 (by omega)
                have hsz := Nat.le_trans hsz hc14.size
                have hB2 := hc14.at hB2 (by omega)
                have hB3 := hc14.at hB3 (by omega)
                refine WL.op (by decide) (FA57_4 rfl) ?_  -- msg.go:227 t110 := (Op.fieldAddr 57 t3 4)
                refine WL.eff rfl (OP.store1 sz9 rfl rfl rfl rfl hB3 (by rw [List.size_toArray, Rec.length rfl]; decide) rfl ?_)
                intro w15 hc15 hs15 hB3n
                have hB3 := hB3n
                rw [show (0 + 19 : Nat) = 19 from rfl, Rec.set19 rfl] at hB3
                have hC := hC.then hc15 (fun k hk e => by omega)
                have hG := hG.kept hc15 (by omega)
                have hS := hS.kept hc15 (fun g o h e => by have := hg g o h; omega)
                have hR := hc15.at hR (by omega)
                have hB2 := hc15.at hB2 (by omega)
                have hsz := Nat.le_trans hsz hc15.size
                refine WL.next ?_
                refine CW.rseq ?_  -- region 18
                refine WL.op (by decide) (R.move rfl) ?_  -- msg.go:228 t111 := (Op.move t0)
                refine WL.op (by decide) (R.nilCheck rfl) ?_  -- msg.go:228 t112 := (Op.nilCheck t111)
                refine WL.op (by decide) (FA100_1 rfl) ?_  -- msg.go:228 t113 := (Op.fieldAddr 100 t112 1)
                refine WL.op (by decide) (R.load Tryd.underlying3 rfl rfl (cell_at hR rfl)) ?_  -- msg.go:228 t114 := (Op.load 3 t113)
                refine WL.op (by decide) (R.move rfl) ?_  -- msg.go:228 t115 := (Op.move t6)
                refine WL.neqS (by decide) rfl rfl (fun h6 => ?_) (fun h6 => ?_)  -- msg.go:228 t116 := (Op.binOp BinOp.neq 3 t114 t115 3)
                · skip
                  refine WL.next ?_
                  refine CW.condT rfl ?_
                  refine CW.region ?_  -- region 19
                  refine WL.op (by decide) (R.move rfl) ?_  -- msg.go:229 t117 := (Op.move t0)
                  refine WL.op (by decide) (R.nilCheck rfl) ?_  -- msg.go:229 t118 := (Op.nilCheck t117)
                  refine WL.op (by decide) (FA100_2 rfl) ?_  -- msg.go:229 t119 := (Op.fieldAddr 100 t118 2)
                  refine WL.eff rfl (OP.store1 sz4 rfl rfl rfl rfl hR (Nat.le_of_ble_eq_true rfl) rfl ?_)
                  intro w16 hcs _ hR
                  have hC := hC.trans hcs
                  have hS := hS.kept hcs (fun g o h => (hg g o h).1)
                  have hG := hG.kept hcs (by omega)
                  have hsz := Nat.le_trans hsz hcs.size
                  have hB2 := hcs.at hB2 (by omega)
                  have hB3 := hcs.at hB3 (by omega)
                  refine WL.nil ?_
                  refine EW.inNormal ?_
                  exact EW.cutK [0, 2, 3, 6] ⟨_, a6, true, rfl, rfl, ⟨hsl, Nat.le_trans hs2l (by decide), by simp⟩, hR, hC, hG, hsz, hB2, hB3, by rw [body_far (bs := bs) (nm := s) (ty := v2) (a := a5) (n := v5) (ttl := ttlOf v4) (by omega) hn2 (by omega)]; rfl⟩
                · skip
                  refine WL.next ?_
                  refine CW.condF rfl ?_
                  refine CW.skip ?_
                  refine EW.inNormal ?_
                  exact EW.cutK [0, 2, 3, 6] ⟨_, a6, _, rfl, rfl, ⟨hsl, Nat.le_trans hs2l (by decide), by simp⟩, hR, hC, hG, hsz, hB2, hB3, body_near (bs := bs) (nm := s) (ty := v2) (a := a5) (n := v5) (ttl := ttlOf v4) (by omega) hn2 (by omega)⟩
              · skip
                refine WL.op (by decide) (R.move rfl) ?_  -- msg.go:226 t98 := (Op.move t97)
                refine WL.gop (by decide) rfl rfl rfl (FA57_1 rfl) ?_  -- msg.go:226 t99 := (Op.fieldAddr 57 t3 1) [guard 3 false]
                refine WL.gop (by decide) rfl rfl rfl (R.load (v := .int .i64 (v2 : Int)) Tryd.underlying3 rfl rfl (cell_at hB3 (Rec.at1 _))) ?_  -- msg.go:226 t100 := (Op.load 3 t99) [guard 3 false]
                refine WL.gsplit _ (by decide) rfl rfl rfl (R.eqlD rfl rfl) (fun h7 => ?_) (fun h7 => ?_)  -- msg.go:226 t101 := (Op.binOp BinOp.eql 3 t100 c(Value.int IntKind.i64 5) 3) [guard 3 false]
                · skip
                  refine WL.op (by decide) (R.pickF rfl rfl) ?_  -- msg.go:226 t102 := (Op.pick t98 c(Value.bool true) t101)
                  refine WL.op (by decide) (R.move rfl) ?_  -- msg.go:226 t103 := (Op.move t102)
                  refine WL.pass (by decide) rfl rfl rfl ?_  -- msg.go:226 t104 := (Op.fieldAddr 57 t3 1) [guard 8 false]
                  refine WL.pass (by decide) rfl rfl rfl ?_  -- msg.go:226 t105 := (Op.load 3 t104) [guard 8 false]
                  refine WL.pass (by decide) rfl rfl rfl ?_  -- msg.go:226 t106 := (Op.binOp BinOp.eql 3 t105 c(Value.int IntKind.i64 12) 3) [guard 8 false]
                  refine WL.op (by decide) (R.pickT rfl rfl) ?_  -- msg.go:226 t107 := (Op.pick t103 c(Value.bool true) t106)
                  refine WL.op (by decide) (R.assign rfl) ?_  -- msg.go:226 t94 := (Op.assign t107)
                  refine WL.next ?_
                  refine CW.condT rfl ?_
                  refine CW.rseq ?_  -- region 17
                  refine WL.op (by decide) (R.move rfl) ?_  -- msg.go:227 t108 := (Op.move t0)
                  refine WL.eff rfl (OP.call (by decide) Tryd.func46 (by kernel_rfl) (by kernel_rfl) rfl (rname_st rb _ m c bs a5 false _ hR hS (fun g o h => (hg g o h).1) hin9 hm) ?_)
                  rintro ed w14 ⟨s2, a6, b6, rfl, hR, hc14, hn2, hs2l⟩
                  refine ⟨_, rfl, ?_⟩
                  have hC := hC.trans hc14
                  have hS := hS.kept hc14 (fun g o h => (hg g o h).1)
                  have hG := hG.kept hc14 (by omega)
                  have hsz := Nat.le_trans hsz hc14.size
                  have hB2 := hc14.at hB2 (by omega)
                  have hB3 := hc14.at hB3 (by omega)
                  refine WL.op (by decide) (FA57_4 rfl) ?_  -- msg.go:227 t110 := (Op.fieldAddr 57 t3 4)
                  refine WL.eff rfl (OP.store1 sz9 rfl rfl rfl rfl hB3 (by rw [List.size_toArray, Rec.length rfl]; decide) rfl ?_)
                  intro w15 hc15 hs15 hB3n
                  have hB3 := hB3n
                  rw [show (0 + 19 : Nat) = 19 from rfl, Rec.set19 rfl] at hB3
                  have hC := hC.then hc15 (fun k hk e => by omega)
                  have hG := hG.kept hc15 (by omega)
                  have hS := hS.kept hc15 (fun g o h e => by have := hg g o h; omega)
                  have hR := hc15.at hR (by omega)
                  have hB2 := hc15.at hB2 (by omega)
                  have hsz := Nat.le_trans hsz hc15.size
                  refine WL.next ?_
                  refine CW.rseq ?_  -- region 18
                  refine WL.op (by decide) (R.move rfl) ?_  -- msg.go:228 t111 := (Op.move t0)
                  refine WL.op (by decide) (R.nilCheck rfl) ?_  -- msg.go:228 t112 := (Op.nilCheck t111)
                  refine WL.op (by decide) (FA100_1 rfl) ?_  -- msg.go:228 t113 := (Op.fieldAddr 100 t112 1)
                  refine WL.op (by decide) (R.load Tryd.underlying3 rfl rfl (cell_at hR rfl)) ?_  -- msg.go:228 t114 := (Op.load 3 t113)
                  refine WL.op (by decide) (R.move rfl) ?_  -- msg.go:228 t115 := (Op.move t6)
                  refine WL.neqS (by decide) rfl rfl (fun h8 => ?_) (fun h8 => ?_)  -- msg.go:228 t116 := (Op.binOp BinOp.neq 3 t114 t115 3)
                  · skip
                    refine WL.next ?_
                    refine CW.condT rfl ?_
                    refine CW.region ?_  -- region 19
                    refine WL.op (by decide) (R.move rfl) ?_  -- msg.go:229 t117 := (Op.move t0)
                    refine WL.op (by decide) (R.nilCheck rfl) ?_  -- msg.go:229 t118 := (Op.nilCheck t117)
                    refine WL.op (by decide) (FA100_2 rfl) ?_  -- msg.go:229 t119 := (Op.fieldAddr 100 t118 2)
                    refine WL.eff rfl (OP.store1 sz4 rfl rfl rfl rfl hR (Nat.le_of_ble_eq_true rfl) rfl ?_)
                    intro w16 hcs _ hR
                    have hC := hC.trans hcs
                    have hS := hS.kept hcs (fun g o h => (hg g o h).1)
                    have hG := hG.kept hcs (by omega)
                    have hsz := Nat.le_trans hsz hcs.size
                    have hB2 := hcs.at hB2 (by omega)
                    have hB3 := hcs.at hB3 (by omega)
                    refine WL.nil ?_
                    refine EW.inNormal ?_
                    exact EW.cutK [0, 2, 3, 6] ⟨_, a6, true, rfl, rfl, ⟨hsl, Nat.le_trans hs2l (by decide), by simp⟩, hR, hC, hG, hsz, hB2, hB3, by rw [body_far (bs := bs) (nm := s) (ty := v2) (a := a5) (n := v5) (ttl := ttlOf v4) (by omega) hn2 (by omega)]; rfl⟩
                  · skip
                    refine WL.next ?_
                    refine CW.condF rfl ?_
                    refine CW.skip ?_
                    refine EW.inNormal ?_
                    exact EW.cutK [0, 2, 3, 6] ⟨_, a6, _, rfl, rfl, ⟨hsl, Nat.le_trans hs2l (by decide), by simp⟩, hR, hC, hG, hsz, hB2, hB3, body_near (bs := bs) (nm := s) (ty := v2) (a := a5) (n := v5) (ttl := ttlOf v4) (by omega) hn2 (by omega)⟩
                · skip
                  refine WL.op (by decide) (R.pickF rfl rfl) ?_  -- msg.go:226 t102 := (Op.pick t98 c(Value.bool true) t101)
                  refine WL.op (by decide) (R.move rfl) ?_  -- msg.go:226 t103 := (Op.move t102)
                  refine WL.gop (by decide) rfl rfl rfl (FA57_1 rfl) ?_  -- msg.go:226 t104 := (Op.fieldAddr 57 t3 1) [guard 8 false]
                  refine WL.gop (by decide) rfl rfl rfl (R.load (v := .int .i64 (v2 : Int)) Tryd.underlying3 rfl rfl (cell_at hB3 (Rec.at1 _))) ?_  -- msg.go:226 t105 := (Op.load 3 t104) [guard 8 false]
                  refine WL.gsplit _ (by decide) rfl rfl rfl (R.eqlD rfl rfl) (fun h9 => ?_) (fun h9 => ?_)  -- msg.go:226 t106 := (Op.binOp BinOp.eql 3 t105 c(Value.int IntKind.i64 12) 3) [guard 8 false]
                  · skip
                    refine WL.op (by decide) (R.pickF rfl rfl) ?_  -- msg.go:226 t107 := (Op.pick t103 c(Value.bool true) t106)
                    refine WL.op (by decide) (R.assign rfl) ?_  -- msg.go:226 t94 := (Op.assign t107)
                    refine WL.next ?_
                    refine CW.condT rfl ?_
                    refine CW.rseq ?_  -- region 17
                    refine WL.op (by decide) (R.move rfl) ?_  -- msg.go:227 t108 := (Op.move t0)
                    refine WL.eff rfl (OP.call (by decide) Tryd.func46 (by kernel_rfl) (by kernel_rfl) rfl (rname_st rb _ m c bs a5 false _ hR hS (fun g o h => (hg g o h).1) hin9 hm) ?_)
                    rintro ed w14 ⟨s2, a6, b6, rfl, hR, hc14, hn2, hs2l⟩
                    refine ⟨_, rfl, ?_⟩
                    have hC := hC.trans hc14
                    have hS := hS.kept hc14 (fun g o h => (hg g o h).1)
                    have hG := hG.kept hc14 (by omega)
                    have hsz := Nat.le_trans hsz hc14.size
                    have hB2 := hc14.at hB2 (by omega)
                    have hB3 := hc14.at hB3 (by omega)
                    refine WL.op (by decide) (FA57_4 rfl) ?_  -- msg.go:227 t110 := (Op.fieldAddr 57 t3 4)
                    refine WL.eff rfl (OP.store1 sz9 rfl rfl rfl rfl hB3 (by rw [List.size_toArray, Rec.length rfl]; decide) rfl ?_)
                    intro w15 hc15 hs15 hB3n
                    have hB3 := hB3n
                    rw [show (0 + 19 : Nat) = 19 from rfl, Rec.set19 rfl] at hB3
                    have hC := hC.then hc15 (fun k hk e => by omega)
                    have hG := hG.kept hc15 (by omega)
                    have hS := hS.kept hc15 (fun g o h e => by have := hg g o h; omega)
                    have hR := hc15.at hR (by omega)
                    have hB2 := hc15.at hB2 (by omega)
                    have hsz := Nat.le_trans hsz hc15.size
                    refine WL.next ?_
                    refine CW.rseq ?_  -- region 18
                    refine WL.op (by decide) (R.move rfl) ?_  -- msg.go:228 t111 := (Op.move t0)
                    refine WL.op (by decide) (R.nilCheck rfl) ?_  -- msg.go:228 t112 := (Op.nilCheck t111)
                    refine WL.op (by decide) (FA100_1 rfl) ?_  -- msg.go:228 t113 := (Op.fieldAddr 100 t112 1)
                    refine WL.op (by decide) (R.load Tryd.underlying3 rfl rfl (cell_at hR rfl)) ?_  -- msg.go:228 t114 := (Op.load 3 t113)
                    refine WL.op (by decide) (R.move rfl) ?_  -- msg.go:228 t115 := (Op.move t6)
                    refine WL.neqS (by decide) rfl rfl (fun h10 => ?_) (fun h10 => ?_)  -- msg.go:228 t116 := (Op.binOp BinOp.neq 3 t114 t115 3)
                    · skip
                      refine WL.next ?_
                      refine CW.condT rfl ?_
                      refine CW.region ?_  -- region 19
                      refine WL.op (by decide) (R.move rfl) ?_  -- msg.go:229 t117 := (Op.move t0)
                      refine WL.op (by decide) (R.nilCheck rfl) ?_  -- msg.go:229 t118 := (Op.nilCheck t117)
                      refine WL.op (by decide) (FA100_2 rfl) ?_  -- msg.go:229 t119 := (Op.fieldAddr 100 t118 2)
                      refine WL.eff rfl (OP.store1 sz4 rfl rfl rfl rfl hR (Nat.le_of_ble_eq_true rfl) rfl ?_)
                      intro w16 hcs _ hR
                      have hC := hC.trans hcs
                      have hS := hS.kept hcs (fun g o h => (hg g o h).1)
                      have hG := hG.kept hcs (by omega)
                      have hsz := Nat.le_trans hsz hcs.size
                      have hB2 := hcs.at hB2 (by omega)
                      have hB3 := hcs.at hB3 (by omega)
                      refine WL.nil ?_
                      refine EW.inNormal ?_
                      exact EW.cutK [0, 2, 3, 6] ⟨_, a6, true, rfl, rfl, ⟨hsl, Nat.le_trans hs2l (by decide), by simp⟩, hR, hC, hG, hsz, hB2, hB3, by rw [body_far (bs := bs) (nm := s) (ty := v2) (a := a5) (n := v5) (ttl := ttlOf v4) (by omega) hn2 (by omega)]; rfl⟩
                    · skip
                      refine WL.next ?_
                      refine CW.condF rfl ?_
                      refine CW.skip ?_
                      refine EW.inNormal ?_
                      exact EW.cutK [0, 2, 3, 6] ⟨_, a6, _, rfl, rfl, ⟨hsl, Nat.le_trans hs2l (by decide), by simp⟩, hR, hC, hG, hsz, hB2, hB3, body_near (bs := bs) (nm := s) (ty := v2) (a := a5) (n := v5) (ttl := ttlOf v4) (by omega) hn2 (by omega)⟩
                  · skip
                    refine WL.op (by decide) (R.pickF rfl rfl) ?_  -- msg.go:226 t107 := (Op.pick t103 c(Value.bool true) t106)
                    refine WL.op (by decide) (R.assign rfl) ?_  -- msg.go:226 t94 := (Op.assign t107)
                    refine WL.next ?_
                    refine CW.condF rfl ?_
                    refine CW.region ?_  -- region 10
                    refine WL.op (by decide) (R.move rfl) ?_  -- msg.go:232 t64 := (Op.move t7)
                    refine WL.op (by decide) (R.strOf (s := dat) rfl hdl hdat) ?_  -- msg.go:232 t65 := (Op.convert 36 9 t64)
                    refine WL.op (by decide) (FA57_5 rfl) ?_  -- msg.go:232 t66 := (Op.fieldAddr 57 t3 5)
                    refine WL.eff rfl (OP.store1 sz9 rfl rfl rfl rfl hB3 (by rw [List.size_toArray, Rec.length rfl]; decide) rfl ?_)
                    intro w15 hc15 hs15 hB3n
                    have hB3 := hB3n
                    rw [show (0 + 20 : Nat) = 20 from rfl, Rec.set20 rfl] at hB3
                    have hC := hC.then hc15 (fun k hk e => by omega)
                    have hG := hG.kept hc15 (by omega)
                    have hR := hc15.at hR (by omega)
                    have hB2 := hc15.at hB2 (by omega)
                    have hsz := Nat.le_trans hsz hc15.size
                    refine WL.nil ?_
                    refine EW.inNormal ?_
                    exact EW.cutK [0, 2, 3, 6] ⟨_, a5, false, rfl, rfl, ⟨hsl, by simp, by show dat.length ≤ _; omega⟩, hR, hC, hG, hsz, hB2, hB3, by rw [body_other (bs := bs) (nm := s) (ty := v2) (a := a5) (n := v5) (ttl := ttlOf v4) (by omega) (by omega) (by omega)]; exact ⟨by rw [hdat0]; rfl, rfl⟩⟩
          · skip
            refine WL.op (by decide) (R.move rfl) ?_  -- msg.go:224 t86 := (Op.move t85)
            refine WL.pass (by decide) rfl rfl rfl ?_  -- msg.go:224 t87 := (Op.move t5) [guard 3 true]
            refine WL.pass (by decide) rfl rfl rfl ?_  -- msg.go:224 t88 := (Op.binOp BinOp.eql 3 t87 c(Value.int IntKind.i64 16) 3) [guard 3 true]
            refine WL.op (by decide) (R.pickF rfl rfl) ?_  -- msg.go:224 t89 := (Op.pick t86 t88 c(Value.bool false))
            refine WL.op (by decide) (R.assign rfl) ?_  -- msg.go:224 t82 := (Op.assign t89)
            refine WL.next ?_
            refine CW.condF rfl ?_
            refine CW.rseq ?_  -- region 16
            refine WL.op (by decide) (FA57_1 rfl) ?_  -- msg.go:226 t95 := (Op.fieldAddr 57 t3 1)
            refine WL.op (by decide) (R.load (v := .int .i64 (v2 : Int)) Tryd.underlying3 rfl rfl (cell_at hB3 (Rec.at1 _))) ?_  -- msg.go:226 t96 := (Op.load 3 t95)
            refine WL.eqlS (by decide) rfl rfl (fun h11 => ?_) (fun h11 => ?_)  -- msg.go:226 t97 := (Op.binOp BinOp.eql 3 t96 c(Value.int IntKind.i64 2) 3)
            · skip
              refine WL.op (by decide) (R.move rfl) ?_  -- msg.go:226 t98 := (Op.move t97)
              refine WL.pass (by decide) rfl rfl rfl ?_  -- msg.go:226 t99 := (Op.fieldAddr 57 t3 1) [guard 3 false]
              refine WL.pass (by decide) rfl rfl rfl ?_  -- msg.go:226 t100 := (Op.load 3 t99) [guard 3 false]
              refine WL.pass (by decide) rfl rfl rfl ?_  -- msg.go:226 t101 := (Op.binOp BinOp.eql 3 t100 c(Value.int IntKind.i64 5) 3) [guard 3 false]
              refine WL.op (by decide) (R.pickT rfl rfl) ?_  -- msg.go:226 t102 := (Op.pick t98 c(Value.bool true) t101)
              refine WL.op (by decide) (R.move rfl) ?_  -- msg.go:226 t103 := (Op.move t102)
              refine WL.pass (by decide) rfl rfl rfl ?_  -- msg.go:226 t104 := (Op.fieldAddr 57 t3 1) [guard 8 false]
              refine WL.pass (by decide) rfl rfl rfl ?_  -- msg.go:226 t105 := (Op.load 3 t104) [guard 8 false]
              refine WL.pass (by decide) rfl rfl rfl ?_  -- msg.go:226 t106 := (Op.binOp BinOp.eql 3 t105 c(Value.int IntKind.i64 12) 3) [guard 8 false]
              refine WL.op (by decide) (R.pickT rfl rfl) ?_  -- msg.go:226 t107 := (Op.pick t103 c(Value.bool true) t106)
              refine WL.op (by decide) (R.assign rfl) ?_  -- msg.go:226 t94 := (Op.assign t107)
              refine WL.next ?_
              refine CW.condT rfl ?_
              refine CW.rseq ?_  -- region 17
              refine WL.op (by decide) (R.move rfl) ?_  -- msg.go:227 t108 := (Op.move t0)
              refine WL.eff rfl (OP.call (by decide) Tryd.func46 (by kernel_rfl) (by kernel_rfl) rfl (rname_st rb _ m c bs a5 false _ hR hS (fun g o h => (hg g o h).1) hin9 hm) ?_)
              rintro ed w14 ⟨s2, a6, b6, rfl, hR, hc14, hn2, hs2l⟩
              refine ⟨_, rfl, ?_⟩
              have hC := hC.trans hc14
              have hS := hS.kept hc14 (fun g o h => (hg g o h).1)
              have hG := hG.kept hc14 (by omega)
              have hsz := Nat.le_trans hsz hc14.size
              have hB2 := hc14.at hB2 (by omega)
              have hB3 := hc14.at hB3 (by omega)
              refine WL.op (by decide) (FA57_4 rfl) ?_  -- msg.go:227 t110 := (Op.fieldAddr 57 t3 4)
              refine WL.eff rfl (OP.store1 sz9 rfl rfl rfl rfl hB3 (by rw [List.size_toArray, Rec.length rfl]; decide) rfl ?_)
              intro w15 hc15 hs15 hB3n
              have hB3 := hB3n
              rw [show (0 + 19 : Nat) = 19 from rfl, Rec.set19 rfl] at hB3
              have hC := hC.then hc15 (fun k hk e => by omega)
              have hG := hG.kept hc15 (by omega)
              have hS := hS.kept hc15 (fun g o h e => by have := hg g o h; omega)
              have hR := hc15.at hR (by omega)
              have hB2 := hc15.at hB2 (by omega)
              have hsz := Nat.le_trans hsz hc15.size
              refine WL.next ?_
              refine CW.rseq ?_  -- region 18
              refine WL.op (by decide) (R.move rfl) ?_  -- msg.go:228 t111 := (Op.move t0)
              refine WL.op (by decide) (R.nilCheck rfl) ?_  -- msg.go:228 t112 := (Op.nilCheck t111)
              refine WL.op (by decide) (FA100_1 rfl) ?_  -- msg.go:228 t113 := (Op.fieldAddr 100 t112 1)
              refine WL.op (by decide) (R.load Tryd.underlying3 rfl rfl (cell_at hR rfl)) ?_  -- msg.go:228 t114 := (Op.load 3 t113)
              refine WL.op (by decide) (R.move rfl) ?_  -- msg.go:228 t115 := (Op.move t6)
              refine WL.neqS (by decide) rfl rfl (fun h12 => ?_) (fun h12 => ?_)  -- msg.go:228 t116 := (Op.binOp BinOp.neq 3 t114 t115 3)
              · skip
                refine WL.next ?_
                refine CW.condT rfl ?_
                refine CW.region ?_  -- region 19
                refine WL.op (by decide) (R.move rfl) ?_  -- msg.go:229 t117 := (Op.move t0)
                refine WL.op (by decide) (R.nilCheck rfl) ?_  -- msg.go:229 t118 := (Op.nilCheck t117)
                refine WL.op (by decide) (FA100_2 rfl) ?_  -- msg.go:229 t119 := (Op.fieldAddr 100 t118 2)
                refine WL.eff rfl (OP.store1 sz4 rfl rfl rfl rfl hR (Nat.le_of_ble_eq_true rfl) rfl ?_)
                intro w16 hcs _ hR
                have hC := hC.trans hcs
                have hS := hS.kept hcs (fun g o h => (hg g o h).1)
                have hG := hG.kept hcs (by omega)
                have hsz := Nat.le_trans hsz hcs.size
                have hB2 := hcs.at hB2 (by omega)
                have hB3 := hcs.at hB3 (by omega)
                refine WL.nil ?_
                refine EW.inNormal ?_
                exact EW.cutK [0, 2, 3, 6] ⟨_, a6, true, rfl, rfl, ⟨hsl, Nat.le_trans hs2l (by decide), by simp⟩, hR, hC, hG, hsz, hB2, hB3, by rw [body_far (bs := bs) (nm := s) (ty := v2) (a := a5) (n := v5) (ttl := ttlOf v4) (by omega) hn2 (by omega)]; rfl⟩
              · skip
                refine WL.next ?_
                refine CW.condF rfl ?_
                refine CW.skip ?_
                refine EW.inNormal ?_
                exact EW.cutK [0, 2, 3, 6] ⟨_, a6, _, rfl, rfl, ⟨hsl, Nat.le_trans hs2l (by decide), by simp⟩, hR, hC, hG, hsz, hB2, hB3, body_near (bs := bs) (nm := s) (ty := v2) (a := a5) (n := v5) (ttl := ttlOf v4) (by omega) hn2 (by omega)⟩
            · skip
              refine WL.op (by decide) (R.move rfl) ?_  -- msg.go:226 t98 := (Op.move t97)
              refine WL.gop (by decide) rfl rfl rfl (FA57_1 rfl) ?_  -- msg.go:226 t99 := (Op.fieldAddr 57 t3 1) [guard 3 false]
              refine WL.gop (by decide) rfl rfl rfl (R.load (v := .int .i64 (v2 : Int)) Tryd.underlying3 rfl rfl (cell_at hB3 (Rec.at1 _))) ?_  -- msg.go:226 t100 := (Op.load 3 t99) [guard 3 false]
              refine WL.gsplit _ (by decide) rfl rfl rfl (R.eqlD rfl rfl) (fun h13 => ?_) (fun h13 => ?_)  -- msg.go:226 t101 := (Op.binOp BinOp.eql 3 t100 c(Value.int IntKind.i64 5) 3) [guard 3 false]
              · skip
                refine WL.op (by decide) (R.pickF rfl rfl) ?_  -- msg.go:226 t102 := (Op.pick t98 c(Value.bool true) t101)
                refine WL.op (by decide) (R.move rfl) ?_  -- msg.go:226 t103 := (Op.move t102)
                refine WL.pass (by decide) rfl rfl rfl ?_  -- msg.go:226 t104 := (Op.fieldAddr 57 t3 1) [guard 8 false]
                refine WL.pass (by decide) rfl rfl rfl ?_  -- msg.go:226 t105 := (Op.load 3 t104) [guard 8 false]
                refine WL.pass (by decide) rfl rfl rfl ?_  -- msg.go:226 t106 := (Op.binOp BinOp.eql 3 t105 c(Value.int IntKind.i64 12) 3) [guard 8 false]
                refine WL.op (by decide) (R.pickT rfl rfl) ?_  -- msg.go:226 t107 := (Op.pick t103 c(Value.bool true) t106)
                refine WL.op (by decide) (R.assign rfl) ?_  -- msg.go:226 t94 := (Op.assign t107)
                refine WL.next ?_
                refine CW.condT rfl ?_
                refine CW.rseq ?_  -- region 17
                refine WL.op (by decide) (R.move rfl) ?_  -- msg.go:227 t108 := (Op.move t0)
                refine WL.eff rfl (OP.call (by decide) Tryd.func46 (by kernel_rfl) (by kernel_rfl) rfl (rname_st rb _ m c bs a5 false _ hR hS (fun g o h => (hg g o h).1) hin9 hm) ?_)
                rintro ed w14 ⟨s2, a6, b6, rfl, hR, hc14, hn2, hs2l⟩
                refine ⟨_, rfl, ?_⟩
                have hC := hC.trans hc14
                have hS := hS.kept hc14 (fun g o h => (hg g o h).1)
                have hG := hG.kept hc14 (by omega)
                have hsz := Nat.le_trans hsz hc14.size
                have hB2 := hc14.at hB2 (by omega)
                have hB3 := hc14.at hB3 (by omega)
                refine WL.op (by decide) (FA57_4 rfl) ?_  -- msg.go:227 t110 := (Op.fieldAddr 57 t3 4)
                refine WL.eff rfl (OP.store1 sz9 rfl rfl rfl rfl hB3 (by rw [List.size_toArray, Rec.length rfl]; decide) rfl ?_)
                intro w15 hc15 hs15 hB3n
                have hB3 := hB3n
                rw [show (0 + 19 : Nat) = 19 from rfl, Rec.set19 rfl] at hB3
                have hC := hC.then hc15 (fun k hk e => by omega)
                have hG := hG.kept hc15 (by omega)
                have hS := hS.kept hc15 (fun g o h e => by have := hg g o h; omega)
                have hR := hc15.at hR (by omega)
                have hB2 := hc15.at hB2 (by omega)
                have hsz := Nat.le_trans hsz hc15.size
                refine WL.next ?_
                refine CW.rseq ?_  -- region 18
                refine WL.op (by decide) (R.move rfl) ?_  -- msg.go:228 t111 := (Op.move t0)
                refine WL.op (by decide) (R.nilCheck rfl) ?_  -- msg.go:228 t112 := (Op.nilCheck t111)
                refine WL.op (by decide) (FA100_1 rfl) ?_  -- msg.go:228 t113 := (Op.fieldAddr 100 t112 1)
                refine WL.op (by decide) (R.load Tryd.underlying3 rfl rfl (cell_at hR rfl)) ?_  -- msg.go:228 t114 := (Op.load 3 t113)
                refine WL.op (by decide) (R.move rfl) ?_  -- msg.go:228 t115 := (Op.move t6)
                refine WL.neqS (by decide) rfl rfl (fun h14 => ?_) (fun h14 => ?_)  -- msg.go:228 t116 := (Op.binOp BinOp.neq 3 t114 t115 3)
                · skip
                  refine WL.next ?_
                  refine CW.condT rfl ?_
                  refine CW.region ?_  -- region 19
                  refine WL.op (by decide) (R.move rfl) ?_  -- msg.go:229 t117 := (Op.move t0)
                  refine WL.op (by decide) (R.nilCheck rfl) ?_  -- msg.go:229 t118 := (Op.nilCheck t117)
                  refine WL.op (by decide) (FA100_2 rfl) ?_  -- msg.go:229 t119 := (Op.fieldAddr 100 t118 2)
                  refine WL.eff rfl (OP.store1 sz4 rfl rfl rfl rfl hR (Nat.le_of_ble_eq_true rfl) rfl ?_)
                  intro w16 hcs _ hR
                  have hC := hC.trans hcs
                  have hS := hS.kept hcs (fun g o h => (hg g o h).1)
                  have hG := hG.kept hcs (by omega)
                  have hsz := Nat.le_trans hsz hcs.size
                  have hB2 := hcs.at hB2 (by omega)
                  have hB3 := hcs.at hB3 (by omega)
                  refine WL.nil ?_
                  refine EW.inNormal ?_
                  exact EW.cutK [0, 2, 3, 6] ⟨_, a6, true, rfl, rfl, ⟨hsl, Nat.le_trans hs2l (by decide), by simp⟩, hR, hC, hG, hsz, hB2, hB3, by rw [body_far (bs := bs) (nm := s) (ty := v2) (a := a5) (n := v5) (ttl := ttlOf v4) (by omega) hn2 (by omega)]; rfl⟩
                · skip
                  refine WL.next ?_
                  refine CW.condF rfl ?_
                  refine CW.skip ?_
                  refine EW.inNormal ?_
                  exact EW.cutK [0, 2, 3, 6] ⟨_, a6, _, rfl, rfl, ⟨hsl, Nat.le_trans hs2l (by decide), by simp⟩, hR, hC, hG, hsz, hB2, hB3, body_near (bs := bs) (nm := s) (ty := v2) (a := a5) (n := v5) (ttl := ttlOf v4) (by omega) hn2 (by omega)⟩
              · skip
                refine WL.op (by decide) (R.pickF rfl rfl) ?_  -- msg.go:226 t102 := (Op.pick t98 c(Value.bool true) t101)
                refine WL.op (by decide) (R.move rfl) ?_  -- msg.go:226 t103 := (Op.move t102)
                refine WL.gop (by decide) rfl rfl rfl (FA57_1 rfl) ?_  -- msg.go:226 t104 := (Op.fieldAddr 57 t3 1) [guard 8 false]
                refine WL.gop (by decide) rfl rfl rfl (R.load (v := .int .i64 (v2 : Int)) Tryd.underlying3 rfl rfl (cell_at hB3 (Rec.at1 _))) ?_  -- msg.go:226 t105 := (Op.load 3 t104) [guard 8 false]
                refine WL.gsplit _ (by decide) rfl rfl rfl (R.eqlD rfl rfl) (fun h15 => ?_) (fun h15 => ?_)  -- msg.go:226 t106 := (Op.binOp BinOp.eql 3 t105 c(Value.int IntKind.i64 12) 3) [guard 8 false]
                · skip
                  refine WL.op (by decide) (R.pickF rfl rfl) ?_  -- msg.go:226 t107 := (Op.pick t103 c(Value.bool true) t106)
                  refine WL.op (by decide) (R.assign rfl) ?_  -- msg.go:226 t94 := (Op.assign t107)
                  refine WL.next ?_
                  refine CW.condT rfl ?_
                  refine CW.rseq ?_  -- region 17
                  refine WL.op (by decide) (R.move rfl) ?_  -- msg.go:227 t108 := (Op.move t0)
                  refine WL.eff rfl (OP.call (by decide) Tryd.func46 (by kernel_rfl) (by kernel_rfl) rfl (rname_st rb _ m c bs a5 false _ hR hS (fun g o h => (hg g o h).1) hin9 hm) ?_)
                  rintro ed w14 ⟨s2, a6, b6, rfl, hR, hc14, hn2, hs2l⟩
                  refine ⟨_, rfl, ?_⟩
                  have hC := hC.trans hc14
                  have hS := hS.kept hc14 (fun g o h => (hg g o h).1)
                  have hG := hG.kept hc14 (by omega)
                  have hsz := Nat.le_trans hsz hc14.size
                  have hB2 := hc14.at hB2 (by omega)
                  have hB3 := hc14.at hB3 (by omega)
                  refine WL.op (by decide) (FA57_4 rfl) ?_  -- msg.go:227 t110 := (Op.fieldAddr 57 t3 4)
                  refine WL.eff rfl (OP.store1 sz9 rfl rfl rfl rfl hB3 (by rw [List.size_toArray, Rec.length rfl]; decide) rfl ?_)
                  intro w15 hc15 hs15 hB3n
                  have hB3 := hB3n
                  rw [show (0 + 19 : Nat) = 19 from rfl, Rec.set19 rfl] at hB3
                  have hC := hC.then hc15 (fun k hk e => by omega)
                  have hG := hG.kept hc15 (by omega)
                  have hS := hS.kept hc15 (fun g o h e => by have := hg g o h; omega)
                  have hR := hc15.at hR (by omega)
                  have hB2 := hc15.at hB2 (by omega)
                  have hsz := Nat.le_trans hsz hc15.size
                  refine WL.next ?_
                  refine CW.rseq ?_  -- region 18
                  refine WL.op (by decide) (R.move rfl) ?_  -- msg.go:228 t111 := (Op.move t0)
                  refine WL.op (by decide) (R.nilCheck rfl) ?_  -- msg.go:228 t112 := (Op.nilCheck t111)
                  refine WL.op (by decide) (FA100_1 rfl) ?_  -- msg.go:228 t113 := (Op.fieldAddr 100 t112 1)
                  refine WL.op (by decide) (R.load Tryd.underlying3 rfl rfl (cell_at hR rfl)) ?_  -- msg.go:228 t114 := (Op.load 3 t113)
                  refine WL.op (by decide) (R.move rfl) ?_  -- msg.go:228 t115 := (Op.move t6)
                  refine WL.neqS (by decide) rfl rfl (fun h16 => ?_) (fun h16 => ?_)  -- msg.go:228 t116 := (Op.binOp BinOp.neq 3 t114 t115 3)
                  · skip
                    refine WL.next ?_
                    refine CW.condT rfl ?_
                    refine CW.region ?_  -- region 19
                    refine WL.op (by decide) (R.move rfl) ?_  -- msg.go:229 t117 := (Op.move t0)
                    refine WL.op (by decide) (R.nilCheck rfl) ?_  -- msg.go:229 t118 := (Op.nilCheck t117)
                    refine WL.op (by decide) (FA100_2 rfl) ?_  -- msg.go:229 t119 := (Op.fieldAddr 100 t118 2)
                    refine WL.eff rfl (OP.store1 sz4 rfl rfl rfl rfl hR (Nat.le_of_ble_eq_true rfl) rfl ?_)
                    intro w16 hcs _ hR
                    have hC := hC.trans hcs
                    have hS := hS.kept hcs (fun g o h => (hg g o h).1)
                    have hG := hG.kept hcs (by omega)
                    have hsz := Nat.le_trans hsz hcs.size
                    have hB2 := hcs.at hB2 (by omega)
                    have hB3 := hcs.at hB3 (by omega)
                    refine WL.nil ?_
                    refine EW.inNormal ?_
                    exact EW.cutK [0, 2, 3, 6] ⟨_, a6, true, rfl, rfl, ⟨hsl, Nat.le_trans hs2l (by decide), by simp⟩, hR, hC, hG, hsz, hB2, hB3, by rw [body_far (bs := bs) (nm := s) (ty := v2) (a := a5) (n := v5) (ttl := ttlOf v4) (by omega) hn2 (by omega)]; rfl⟩
                  · skip
                    refine WL.next ?_
                    refine CW.condF rfl ?_
                    refine CW.skip ?_
                    refine EW.inNormal ?_
                    exact EW.cutK [0, 2, 3, 6] ⟨_, a6, _, rfl, rfl, ⟨hsl, Nat.le_trans hs2l (by decide), by simp⟩, hR, hC, hG, hsz, hB2, hB3, body_near (bs := bs) (nm := s) (ty := v2) (a := a5) (n := v5) (ttl := ttlOf v4) (by omega) hn2 (by omega)⟩
                · skip
                  refine WL.op (by decide) (R.pickF rfl rfl) ?_  -- msg.go:226 t107 := (Op.pick t103 c(Value.bool true) t106)
                  refine WL.op (by decide) (R.assign rfl) ?_  -- msg.go:226 t94 := (Op.assign t107)
                  refine WL.next ?_
                  refine CW.condF rfl ?_
                  refine CW.region ?_  -- region 10
                  refine WL.op (by decide) (R.move rfl) ?_  -- msg.go:232 t64 := (Op.move t7)
                  refine WL.op (by decide) (R.strOf (s := dat) rfl hdl hdat) ?_  -- msg.go:232 t65 := (Op.convert 36 9 t64)
                  refine WL.op (by decide) (FA57_5 rfl) ?_  -- msg.go:232 t66 := (Op.fieldAddr 57 t3 5)
                  refine WL.eff rfl (OP.store1 sz9 rfl rfl rfl rfl hB3 (by rw [List.size_toArray, Rec.length rfl]; decide) rfl ?_)
                  intro w15 hc15 hs15 hB3n
                  have hB3 := hB3n
                  rw [show (0 + 20 : Nat) = 20 from rfl, Rec.set20 rfl] at hB3
                  have hC := hC.then hc15 (fun k hk e => by omega)
                  have hG := hG.kept hc15 (by omega)
                  have hR := hc15.at hR (by omega)
                  have hB2 := hc15.at hB2 (by omega)
                  have hsz := Nat.le_trans hsz hc15.size
                  refine WL.nil ?_
                  refine EW.inNormal ?_
                  exact EW.cutK [0, 2, 3, 6] ⟨_, a5, false, rfl, rfl, ⟨hsl, by simp, by show dat.length ≤ _; omega⟩, hR, hC, hG, hsz, hB2, hB3, by rw [body_other (bs := bs) (nm := s) (ty := v2) (a := a5) (n := v5) (ttl := ttlOf v4) (by omega) (by omega) (by omega)]; exact ⟨by rw [hdat0]; rfl, rfl⟩⟩
      · skip
        refine WL.op (by decide) (R.move rfl) ?_  -- msg.go:221 t71 := (Op.move t70)
        refine WL.pass (by decide) rfl rfl rfl ?_  -- msg.go:221 t72 := (Op.move t5) [guard 3 true]
        refine WL.pass (by decide) rfl rfl rfl ?_  -- msg.go:221 t73 := (Op.binOp BinOp.eql 3 t72 c(Value.int IntKind.i64 4) 3) [guard 3 true]
        refine WL.op (by decide) (R.pickF rfl rfl) ?_  -- msg.go:221 t74 := (Op.pick t71 t73 c(Value.bool false))
        refine WL.op (by decide) (R.assign rfl) ?_  -- msg.go:221 t67 := (Op.assign t74)
        refine WL.next ?_
        refine CW.condF rfl ?_
        refine CW.rseq ?_  -- region 14
        refine WL.op (by decide) (FA57_1 rfl) ?_  -- msg.go:224 t83 := (Op.fieldAddr 57 t3 1)
        refine WL.op (by decide) (R.load (v := .int .i64 (v2 : Int)) Tryd.underlying3 rfl rfl (cell_at hB3 (Rec.at1 _))) ?_  -- msg.go:224 t84 := (Op.load 3 t83)
        refine WL.eqlS (by decide) rfl rfl (fun h17 => ?_) (fun h17 => ?_)  -- msg.go:224 t85 := (Op.binOp BinOp.eql 3 t84 c(Value.int IntKind.i64 28) 3)
        · skip
          refine WL.op (by decide) (R.move rfl) ?_  -- msg.go:224 t86 := (Op.move t85)
          refine WL.gop (by decide) rfl rfl rfl (R.move rfl) ?_  -- msg.go:224 t87 := (Op.move t5) [guard 3 true]
          refine WL.gsplit _ (by decide) rfl rfl rfl (R.eqlD rfl rfl) (fun h18 => ?_) (fun h18 => ?_)  -- msg.go:224 t88 := (Op.binOp BinOp.eql 3 t87 c(Value.int IntKind.i64 16) 3) [guard 3 true]
          · skip
            refine WL.op (by decide) (R.pickT rfl rfl) ?_  -- msg.go:224 t89 := (Op.pick t86 t88 c(Value.bool false))
            refine WL.op (by decide) (R.assign rfl) ?_  -- msg.go:224 t82 := (Op.assign t89)
            refine WL.next ?_
            refine CW.condT rfl ?_
            refine CW.region ?_  -- region 15
            refine WL.op (by decide) (FA57_3 rfl) ?_  -- msg.go:225 t90 := (Op.fieldAddr 57 t3 3)
            refine WL.op (by decide) (R.sliceArr (lv := none) (hv := none) (l1 := 0) (h1 := 16) Tryd.underlying27 sz5 rfl rfl rfl (by kernel_rfl) (by decide)) ?_  -- msg.go:225 t91 := (Op.slice 27 t90 none none none)
            refine WL.op (by decide) (R.move rfl) ?_  -- msg.go:225 t92 := (Op.move t7)
            refine WL.eff rfl (OP.copy (cs := dat) (by decide) rfl rfl hB3 (by rw [(show dat.length = 16 by omega)]; exact (Nat.min_eq_left (by omega) |>.trans (by omega)).symm) (cells_at hdat) (by rw [List.size_toArray, Rec.length rfl, (show dat.length = 16 by omega)]; decide) ?_)
            intro w14 hcp _ hB3n
            have hB3 := hB3n
            rw [show (dat).length = 16 from (show dat.length = 16 by omega)] at hB3
            rw [show (0 + 3 + 0 : Nat) = 3 from rfl, Rec.setAddr rfl ((show dat.length = 16 by omega))] at hB3
            have hC := hC.then hcp (fun k hk e => by omega)
            have hG := hG.kept hcp (by omega)
            have hR := hcp.at hR (by omega)
            have hB2 := hcp.at hB2 (by omega)
            have hsz := Nat.le_trans hsz hcp.size
            refine WL.nil ?_
            refine EW.inNormal ?_
            exact EW.cutK [0, 2, 3, 6] ⟨_, a5, false, rfl, by show dat.length = 16; omega, ⟨hsl, by simp, by simp⟩, hR, hC, hG, hsz, hB2, hB3, by rw [body_aaaa (bs := bs) (nm := s) (ty := v2) (a := a5) (n := v5) (ttl := ttlOf v4) (by omega) (by omega)]; exact ⟨by rw [hdat0]; rfl, rfl⟩⟩
          · skip
            refine WL.op (by decide) (R.pickT rfl rfl) ?_  -- msg.go:224 t89 := (Op.pick t86 t88 c(Value.bool false))
            refine WL.op (by decide) (R.assign rfl) ?_  -- msg.go:224 t82 := (Op.assign t89)
            refine WL.next ?_
            refine CW.condF rfl ?_
            refine CW.rseq ?_  -- region 16
            refine WL.op (by decide) (FA57_1 rfl) ?_  -- msg.go:226 t95 := (Op.fieldAddr 57 t3 1)
            refine WL.op (by decide) (R.load (v := .int .i64 (v2 : Int)) Tryd.underlying3 rfl rfl (cell_at hB3 (Rec.at1 _))) ?_  -- msg.go:226 t96 := (Op.load 3 t95)
            refine WL.eqlS (by decide) rfl rfl (fun h19 => ?_) (fun h19 => ?_)  -- msg.go:226 t97 := (Op.binOp BinOp.eql 3 t96 c(Value.int IntKind.i64 2) 3)
            · skip
              refine WL.op (by decide) (R.move rfl) ?_  -- msg.go:226 t98 := (Op.move t97)
              refine WL.pass (by decide) rfl rfl rfl ?_  -- msg.go:226 t99 := (Op.fieldAddr 57 t3 1) [guard 3 false]
              refine WL.pass (by decide) rfl rfl rfl ?_  -- msg.go:226 t100 := (Op.load 3 t99) [guard 3 false]
              refine WL.pass (by decide) rfl rfl rfl ?_  -- msg.go:226 t101 := (Op.binOp BinOp.eql 3 t100 c(Value.int IntKind.i64 5) 3) [guard 3 false]
              refine WL.op (by decide) (R.pickT rfl rfl) ?_  -- msg.go:226 t102 := (Op.pick t98 c(Value.bool true) t101)
              refine WL.op (by decide) (R.move rfl) ?_  -- msg.go:226 t103 := (Op.move t102)
              refine WL.pass (by decide) rfl rfl rfl ?_  -- msg.go:226 t104 := (Op.fieldAddr 57 t3 1) [guard 8 false]
              refine WL.pass (by decide) rfl rfl rfl ?_  -- msg.go:226 t105 := (Op.load 3 t104) [guard 8 false]
              refine WL.pass (by decide) rfl rfl rfl ?_  -- msg.go:226 t106 := (Op.binOp BinOp.eql 3 t105 c(Value.int IntKind.i64 12) 3) [guard 8 false]
              refine WL.op (by decide) (R.pickT rfl rfl) ?_  -- msg.go:226 t107 := (Op.pick t103 c(Value.bool true) t106)
              refine WL.op (by decide) (R.assign rfl) ?_  -- msg.go:226 t94 := (Op.assign t107)
              refine WL.next ?_
              refine CW.condT rfl ?_
              refine CW.rseq ?_  -- region 17
              refine WL.op (by decide) (R.move rfl) ?_  -- msg.go:227 t108 := (Op.move t0)
              refine WL.eff rfl (OP.call (by decide) Tryd.func46 (by kernel_rfl) (by kernel_rfl) rfl (rname_st rb _ m c bs a5 false _ hR hS (fun g o h => (hg g o h).1) hin9 hm) ?_)
              rintro ed w14 ⟨s2, a6, b6, rfl, hR, hc14, hn2, hs2l⟩
              refine ⟨_, rfl, ?_⟩
              have hC := hC.trans hc14
              have hS := hS.kept hc14 (fun g o h => (hg g o h).1)
              have hG := hG.kept hc14 (by omega)
              have hsz := Nat.le_trans hsz hc14.size
              have hB2 := hc14.at hB2 (by omega)
              have hB3 := hc14.at hB3 (by omega)
              refine WL.op (by decide) (FA57_4 rfl) ?_  -- msg.go:227 t110 := (Op.fieldAddr 57 t3 4)
              refine WL.eff rfl (OP.store1 sz9 rfl rfl rfl rfl hB3 (by rw [List.size_toArray, Rec.length rfl]; decide) rfl ?_)
              intro w15 hc15 hs15 hB3n
              have hB3 := hB3n
              rw [show (0 + 19 : Nat) = 19 from rfl, Rec.set19 rfl] at hB3
              have hC := hC.then hc15 (fun k hk e => by omega)
              have hG := hG.kept hc15 (by omega)
              have hS := hS.kept hc15 (fun g o h e => by have := hg g o h; omega)
              have hR := hc15.at hR (by omega)
              have hB2 := hc15.at hB2 (by omega)
              have hsz := Nat.le_trans hsz hc15.size
              refine WL.next ?_
              refine CW.rseq ?_  -- region 18
              refine WL.op (by decide) (R.move rfl) ?_  -- msg.go:228 t111 := (Op.move t0)
              refine WL.op (by decide) (R.nilCheck rfl) ?_  -- msg.go:228 t112 := (Op.nilCheck t111)
              refine WL.op (by decide) (FA100_1 rfl) ?_  -- msg.go:228 t113 := (Op.fieldAddr 100 t112 1)
              refine WL.op (by decide) (R.load Tryd.underlying3 rfl rfl (cell_at hR rfl)) ?_  -- msg.go:228 t114 := (Op.load 3 t113)
              refine WL.op (by decide) (R.move rfl) ?_  -- msg.go:228 t115 := (Op.move t6)
              refine WL.neqS (by decide) rfl rfl (fun h20 => ?_) (fun h20 => ?_)  -- msg.go:228 t116 := (Op.binOp BinOp.neq 3 t114 t115 3)
              · skip
                refine WL.next ?_
                refine CW.condT rfl ?_
                refine CW.region ?_  -- region 19
                refine WL.op (by decide) (R.move rfl) ?_  -- msg.go:229 t117 := (Op.move t0)
                refine WL.op (by decide) (R.nilCheck rfl) ?_  -- msg.go:229 t118 := (Op.nilCheck t117)
                refine WL.op (by decide) (FA100_2 rfl) ?_  -- msg.go:229 t119 := (Op.fieldAddr 100 t118 2)
                refine WL.eff rfl (OP.store1 sz4 rfl rfl rfl rfl hR (Nat.le_of_ble_eq_true rfl) rfl ?_)
                intro w16 hcs _ hR
                have hC := hC.trans hcs
                have hS := hS.kept hcs (fun g o h => (hg g o h).1)
                have hG := hG.kept hcs (by omega)
                have hsz := Nat.le_trans hsz hcs.size
                have hB2 := hcs.at hB2 (by omega)
                have hB3 := hcs.at hB3 (by omega)
                refine WL.nil ?_
                refine EW.inNormal ?_
                exact EW.cutK [0, 2, 3, 6] ⟨_, a6, true, rfl, rfl, ⟨hsl, Nat.le_trans hs2l (by decide), by simp⟩, hR, hC, hG, hsz, hB2, hB3, by rw [body_far (bs := bs) (nm := s) (ty := v2) (a := a5) (n := v5) (ttl := ttlOf v4) (by omega) hn2 (by omega)]; rfl⟩
              · skip
                refine WL.next ?_
                refine CW.condF rfl ?_
                refine CW.skip ?_
                refine EW.inNormal ?_
                exact EW.cutK [0, 2, 3, 6] ⟨_, a6, _, rfl, rfl, ⟨hsl, Nat.le_trans hs2l (by decide), by simp⟩, hR, hC, hG, hsz, hB2, hB3, body_near (bs := bs) (nm := s) (ty := v2) (a := a5) (n := v5) (ttl := ttlOf v4) (by omega) hn2 (by omega)⟩
            · skip
              refine WL.op (by decide) (R.move rfl) ?_  -- msg.go:226 t98 := (Op.move t97)
              refine WL.gop (by decide) rfl rfl rfl (FA57_1 rfl) ?_  -- msg.go:226 t99 := (Op.fieldAddr 57 t3 1) [guard 3 false]
              refine WL.gop (by decide) rfl rfl rfl (R.load (v := .int .i64 (v2 : Int)) Tryd.underlying3 rfl rfl (cell_at hB3 (Rec.at1 _))) ?_  -- msg.go:226 t100 := (Op.load 3 t99) [guard 3 false]
              refine WL.gsplit _ (by decide) rfl rfl rfl (R.eqlD rfl rfl) (fun h21 => ?_) (fun h21 => ?_)  -- msg.go:226 t101 := (Op.binOp BinOp.eql 3 t100 c(Value.int IntKind.i64 5) 3) [guard 3 false]
              · skip
                refine WL.op (by decide) (R.pickF rfl rfl) ?_  -- msg.go:226 t102 := (Op.pick t98 c(Value.bool true) t101)
                refine WL.op (by decide) (R.move rfl) ?_  -- msg.go:226 t103 := (Op.move t102)
                refine WL.pass (by decide) rfl rfl rfl ?_  -- msg.go:226 t104 := (Op.fieldAddr 57 t3 1) [guard 8 false]
                refine WL.pass (by decide) rfl rfl rfl ?_  -- msg.go:226 t105 := (Op.load 3 t104) [guard 8 false]
                refine WL.pass (by decide) rfl rfl rfl ?_  -- msg.go:226 t106 := (Op.binOp BinOp.eql 3 t105 c(Value.int IntKind.i64 12) 3) [guard 8 false]
                refine WL.op (by decide) (R.pickT rfl rfl) ?_  -- msg.go:226 t107 := (Op.pick t103 c(Value.bool true) t106)
                refine WL.op (by decide) (R.assign rfl) ?_  -- msg.go:226 t94 := (Op.assign t107)
                refine WL.next ?_
                refine CW.condT rfl ?_
                refine CW.rseq ?_  -- region 17
                refine WL.op (by decide) (R.move rfl) ?_  -- msg.go:227 t108 := (Op.move t0)
                refine WL.eff rfl (OP.call (by decide) Tryd.func46 (by kernel_rfl) (by kernel_rfl) rfl (rname_st rb _ m c bs a5 false _ hR hS (fun g o h => (hg g o h).1) hin9 hm) ?_)
                rintro ed w14 ⟨s2, a6, b6, rfl, hR, hc14, hn2, hs2l⟩
                refine ⟨_, rfl, ?_⟩
                have hC := hC.trans hc14
                have hS := hS.kept hc14 (fun g o h => (hg g o h).1)
                have hG := hG.kept hc14 (by omega)
                have hsz := Nat.le_trans hsz hc14.size
                have hB2 := hc14.at hB2 (by omega)
                have hB3 := hc14.at hB3 (by omega)
                refine WL.op (by decide) (FA57_4 rfl) ?_  -- msg.go:227 t110 := (Op.fieldAddr 57 t3 4)
                refine WL.eff rfl (OP.store1 sz9 rfl rfl rfl rfl hB3 (by rw [List.size_toArray, Rec.length rfl]; decide) rfl ?_)
                intro w15 hc15 hs15 hB3n
                have hB3 := hB3n
                rw [show (0 + 19 : Nat) = 19 from rfl, Rec.set19 rfl] at hB3
                have hC := hC.then hc15 (fun k hk e => by omega)
                have hG := hG.kept hc15 (by omega)
                have hS := hS.kept hc15 (fun g o h e => by have := hg g o h; omega)
                have hR := hc15.at hR (by omega)
                have hB2 := hc15.at hB2 (by omega)
                have hsz := Nat.le_trans hsz hc15.size
                refine WL.next ?_
                refine CW.rseq ?_  -- region 18
                refine WL.op (by decide) (R.move rfl) ?_  -- msg.go:228 t111 := (Op.move t0)
                refine WL.op (by decide) (R.nilCheck rfl) ?_  -- msg.go:228 t112 := (Op.nilCheck t111)
                refine WL.op (by decide) (FA100_1 rfl) ?_  -- msg.go:228 t113 := (Op.fieldAddr 100 t112 1)
                refine WL.op (by decide) (R.load Tryd.underlying3 rfl rfl (cell_at hR rfl)) ?_  -- msg.go:228 t114 := (Op.load 3 t113)
                refine WL.op (by decide) (R.move rfl) ?_  -- msg.go:228 t115 := (Op.move t6)
                refine WL.neqS (by decide) rfl rfl (fun h22 => ?_) (fun h22 => ?_)  -- msg.go:228 t116 := (Op.binOp BinOp.neq 3 t114 t115 3)
                · skip
                  refine WL.next ?_
                  refine CW.condT rfl ?_
                  refine CW.region ?_  -- region 19
                  refine WL.op (by decide) (R.move rfl) ?_  -- msg.go:229 t117 := (Op.move t0)
                  refine WL.op (by decide) (R.nilCheck rfl) ?_  -- msg.go:229 t118 := (Op.nilCheck t117)
                  refine WL.op (by decide) (FA100_2 rfl) ?_  -- msg.go:229 t119 := (Op.fieldAddr 100 t118 2)
                  refine WL.eff rfl (OP.store1 sz4 rfl rfl rfl rfl hR (Nat.le_of_ble_eq_true rfl) rfl ?_)
                  intro w16 hcs _ hR
                  have hC := hC.trans hcs
                  have hS := hS.kept hcs (fun g o h => (hg g o h).1)
                  have hG := hG.kept hcs (by omega)
                  have hsz := Nat.le_trans hsz hcs.size
                  have hB2 := hcs.at hB2 (by omega)
                  have hB3 := hcs.at hB3 (by omega)
                  refine WL.nil ?_
                  refine EW.inNormal ?_
                  exact EW.cutK [0, 2, 3, 6] ⟨_, a6, true, rfl, rfl, ⟨hsl, Nat.le_trans hs2l (by decide), by simp⟩, hR, hC, hG, hsz, hB2, hB3, by rw [body_far (bs := bs) (nm := s) (ty := v2) (a := a5) (n := v5) (ttl := ttlOf v4) (by omega) hn2 (by omega)]; rfl⟩
                · skip
                  refine WL.next ?_
                  refine CW.condF rfl ?_
                  refine CW.skip ?_
                  refine EW.inNormal ?_
                  exact EW.cutK [0, 2, 3, 6] ⟨_, a6, _, rfl, rfl, ⟨hsl, Nat.le_trans hs2l (by decide), by simp⟩, hR, hC, hG, hsz, hB2, hB3, body_near (bs := bs) (nm := s) (ty := v2) (a := a5) (n := v5) (ttl := ttlOf v4) (by omega) hn2 (by omega)⟩
              · skip
                refine WL.op (by decide) (R.pickF rfl rfl) ?_  -- msg.go:226 t102 := (Op.pick t98 c(Value.bool true) t101)
                refine WL.op (by decide) (R.move rfl) ?_  -- msg.go:226 t103 := (Op.move t102)
                refine WL.gop (by decide) rfl rfl rfl (FA57_1 rfl) ?_  -- msg.go:226 t104 := (Op.fieldAddr 57 t3 1) [guard 8 false]
                refine WL.gop (by decide) rfl rfl rfl (R.load (v := .int .i64 (v2 : Int)) Tryd.underlying3 rfl rfl (cell_at hB3 (Rec.at1 _))) ?_  -- msg.go:226 t105 := (Op.load 3 t104) [guard 8 false]
                refine WL.gsplit _ (by decide) rfl rfl rfl (R.eqlD rfl rfl) (fun h23 => ?_) (fun h23 => ?_)  -- msg.go:226 t106 := (Op.binOp BinOp.eql 3 t105 c(Value.int IntKind.i64 12) 3) [guard 8 false]
                · skip
                  refine WL.op (by decide) (R.pickF rfl rfl) ?_  -- msg.go:226 t107 := (Op.pick t103 c(Value.bool true) t106)
                  refine WL.op (by decide) (R.assign rfl) ?_  -- msg.go:226 t94 := (Op.assign t107)
                  refine WL.next ?_
                  refine CW.condT rfl ?_
                  refine CW.rseq ?_  -- region 17
                  refine WL.op (by decide) (R.move rfl) ?_  -- msg.go:227 t108 := (Op.move t0)
                  refine WL.eff rfl (OP.call (by decide) Tryd.func46 (by kernel_rfl) (by kernel_rfl) rfl (rname_st rb _ m c bs a5 false _ hR hS (fun g o h => (hg g o h).1) hin9 hm) ?_)
                  rintro ed w14 ⟨s2, a6, b6, rfl, hR, hc14, hn2, hs2l⟩
                  refine ⟨_, rfl, ?_⟩
                  have hC := hC.trans hc14
                  have hS := hS.kept hc14 (fun g o h => (hg g o h).1)
                  have hG := hG.kept hc14 (by omega)
                  have hsz := Nat.le_trans hsz hc14.size
                  have hB2 := hc14.at hB2 (by omega)
                  have hB3 := hc14.at hB3 (by omega)
                  refine WL.op (by decide) (FA57_4 rfl) ?_  -- msg.go:227 t110 := (Op.fieldAddr 57 t3 4)
                  refine WL.eff rfl (OP.store1 sz9 rfl rfl rfl rfl hB3 (by rw [List.size_toArray, Rec.length rfl]; decide) rfl ?_)
                  intro w15 hc15 hs15 hB3n
                  have hB3 := hB3n
                  rw [show (0 + 19 : Nat) = 19 from rfl, Rec.set19 rfl] at hB3
                  have hC := hC.then hc15 (fun k hk e => by omega)
                  have hG := hG.kept hc15 (by omega)
                  have hS := hS.kept hc15 (fun g o h e => by have := hg g o h; omega)
                  have hR := hc15.at hR (by omega)
                  have hB2 := hc15.at hB2 (by omega)
                  have hsz := Nat.le_trans hsz hc15.size
                  refine WL.next ?_
                  refine CW.rseq ?_  -- region 18
                  refine WL.op (by decide) (R.move rfl) ?_  -- msg.go:228 t111 := (Op.move t0)
                  refine WL.op (by decide) (R.nilCheck rfl) ?_  -- msg.go:228 t112 := (Op.nilCheck t111)
                  refine WL.op (by decide) (FA100_1 rfl) ?_  -- msg.go:228 t113 := (Op.fieldAddr 100 t112 1)
                  refine WL.op (by decide) (R.load Tryd.underlying3 rfl rfl (cell_at hR rfl)) ?_  -- msg.go:228 t114 := (Op.load 3 t113)
                  refine WL.op (by decide) (R.move rfl) ?_  -- msg.go:228 t115 := (Op.move t6)
                  refine WL.neqS (by decide) rfl rfl (fun h24 => ?_) (fun h24 => ?_)  -- msg.go:228 t116 := (Op.binOp BinOp.neq 3 t114 t115 3)
                  · skip
                    refine WL.next ?_
                    refine CW.condT rfl ?_
                    refine CW.region ?_  -- region 19
                    refine WL.op (by decide) (R.move rfl) ?_  -- msg.go:229 t117 := (Op.move t0)
                    refine WL.op (by decide) (R.nilCheck rfl) ?_  -- msg.go:229 t118 := (Op.nilCheck t117)
                    refine WL.op (by decide) (FA100_2 rfl) ?_  -- msg.go:229 t119 := (Op.fieldAddr 100 t118 2)
                    refine WL.eff rfl (OP.store1 sz4 rfl rfl rfl rfl hR (Nat.le_of_ble_eq_true rfl) rfl ?_)
                    intro w16 hcs _ hR
                    have hC := hC.trans hcs
                    have hS := hS.kept hcs (fun g o h => (hg g o h).1)
                    have hG := hG.kept hcs (by omega)
                    have hsz := Nat.le_trans hsz hcs.size
                    have hB2 := hcs.at hB2 (by omega)
                    have hB3 := hcs.at hB3 (by omega)
                    refine WL.nil ?_
                    refine EW.inNormal ?_
                    exact EW.cutK [0, 2, 3, 6] ⟨_, a6, true, rfl, rfl, ⟨hsl, Nat.le_trans hs2l (by decide), by simp⟩, hR, hC, hG, hsz, hB2, hB3, by rw [body_far (bs := bs) (nm := s) (ty := v2) (a := a5) (n := v5) (ttl := ttlOf v4) (by omega) hn2 (by omega)]; rfl⟩
                  · skip
                    refine WL.next ?_
                    refine CW.condF rfl ?_
                    refine CW.skip ?_
                    refine EW.inNormal ?_
                    exact EW.cutK [0, 2, 3, 6] ⟨_, a6, _, rfl, rfl, ⟨hsl, Nat.le_trans hs2l (by decide), by simp⟩, hR, hC, hG, hsz, hB2, hB3, body_near (bs := bs) (nm := s) (ty := v2) (a := a5) (n := v5) (ttl := ttlOf v4) (by omega) hn2 (by omega)⟩
                · skip
                  refine WL.op (by decide) (R.pickF rfl rfl) ?_  -- msg.go:226 t107 := (Op.pick t103 c(Value.bool true) t106)
                  refine WL.op (by decide) (R.assign rfl) ?_  -- msg.go:226 t94 := (Op.assign t107)
                  refine WL.next ?_
                  refine CW.condF rfl ?_
                  refine CW.region ?_  -- region 10
                  refine WL.op (by decide) (R.move rfl) ?_  -- msg.go:232 t64 := (Op.move t7)
                  refine WL.op (by decide) (R.strOf (s := dat) rfl hdl hdat) ?_  -- msg.go:232 t65 := (Op.convert 36 9 t64)
                  refine WL.op (by decide) (FA57_5 rfl) ?_  -- msg.go:232 t66 := (Op.fieldAddr 57 t3 5)
                  refine WL.eff rfl (OP.store1 sz9 rfl rfl rfl rfl hB3 (by rw [List.size_toArray, Rec.length rfl]; decide) rfl ?_)
                  intro w15 hc15 hs15 hB3n
                  have hB3 := hB3n
                  rw [show (0 + 20 : Nat) = 20 from rfl, Rec.set20 rfl] at hB3
                  have hC := hC.then hc15 (fun k hk e => by omega)
                  have hG := hG.kept hc15 (by omega)
                  have hR := hc15.at hR (by omega)
                  have hB2 := hc15.at hB2 (by omega)
                  have hsz := Nat.le_trans hsz hc15.size
                  refine WL.nil ?_
                  refine EW.inNormal ?_
                  exact EW.cutK [0, 2, 3, 6] ⟨_, a5, false, rfl, rfl, ⟨hsl, by simp, by show dat.length ≤ _; omega⟩, hR, hC, hG, hsz, hB2, hB3, by rw [body_other (bs := bs) (nm := s) (ty := v2) (a := a5) (n := v5) (ttl := ttlOf v4) (by omega) (by omega) (by omega)]; exact ⟨by rw [hdat0]; rfl, rfl⟩⟩
        · skip
          refine WL.op (by decide) (R.move rfl) ?_  -- msg.go:224 t86 := (Op.move t85)
          refine WL.pass (by decide) rfl rfl rfl ?_  -- msg.go:224 t87 := (Op.move t5) [guard 3 true]
          refine WL.pass (by decide) rfl rfl rfl ?_  -- msg.go:224 t88 := (Op.binOp BinOp.eql 3 t87 c(Value.int IntKind.i64 16) 3) [guard 3 true]
          refine WL.op (by decide) (R.pickF rfl rfl) ?_  -- msg.go:224 t89 := (Op.pick t86 t88 c(Value.bool false))
          refine WL.op (by decide) (R.assign rfl) ?_  -- msg.go:224 t82 := (Op.assign t89)
          refine WL.next ?_
          refine CW.condF rfl ?_
          refine CW.rseq ?_  -- region 16
          refine WL.op (by decide) (FA57_1 rfl) ?_  -- msg.go:226 t95 := (Op.fieldAddr 57 t3 1)
          refine WL.op (by decide) (R.load (v := .int .i64 (v2 : Int)) Tryd.underlying3 rfl rfl (cell_at hB3 (Rec.at1 _))) ?_  -- msg.go:226 t96 := (Op.load 3 t95)
          refine WL.eqlS (by decide) rfl rfl (fun h25 => ?_) (fun h25 => ?_)  -- msg.go:226 t97 := (Op.binOp BinOp.eql 3 t96 c(Value.int IntKind.i64 2) 3)
          · skip
            refine WL.op (by decide) (R.move rfl) ?_  -- msg.go:226 t98 := (Op.move t97)
            refine WL.pass (by decide) rfl rfl rfl ?_  -- msg.go:226 t99 := (Op.fieldAddr 57 t3 1) [guard 3 false]
            refine WL.pass (by decide) rfl rfl rfl ?_  -- msg.go:226 t100 := (Op.load 3 t99) [guard 3 false]
            refine WL.pass (by decide) rfl rfl rfl ?_  -- msg.go:226 t101 := (Op.binOp BinOp.eql 3 t100 c(Value.int IntKind.i64 5) 3) [guard 3 false]
            refine WL.op (by decide) (R.pickT rfl rfl) ?_  -- msg.go:226 t102 := (Op.pick t98 c(Value.bool true) t101)
            refine WL.op (by decide) (R.move rfl) ?_  -- msg.go:226 t103 := (Op.move t102)
            refine WL.pass (by decide) rfl rfl rfl ?_  -- msg.go:226 t104 := (Op.fieldAddr 57 t3 1) [guard 8 false]
            refine WL.pass (by decide) rfl rfl rfl ?_  -- msg.go:226 t105 := (Op.load 3 t104) [guard 8 false]
            refine WL.pass (by decide) rfl rfl rfl ?_  -- msg.go:226 t106 := (Op.binOp BinOp.eql 3 t105 c(Value.int IntKind.i64 12) 3) [guard 8 false]
            refine WL.op (by decide) (R.pickT rfl rfl) ?_  -- msg.go:226 t107 := (Op.pick t103 c(Value.bool true) t106)
            refine WL.op (by decide) (R.assign rfl) ?_  -- msg.go:226 t94 := (Op.assign t107)
            refine WL.next ?_
            refine CW.condT rfl ?_
            refine CW.rseq ?_  -- region 17
            refine WL.op (by decide) (R.move rfl) ?_  -- msg.go:227 t108 := (Op.move t0)
            refine WL.eff rfl (OP.call (by decide) Tryd.func46 (by kernel_rfl) (by kernel_rfl) rfl (rname_st rb _ m c bs a5 false _ hR hS (fun g o h => (hg g o h).1) hin9 hm) ?_)
            rintro ed w14 ⟨s2, a6, b6, rfl, hR, hc14, hn2, hs2l⟩
            refine ⟨_, rfl, ?_⟩
            have hC := hC.trans hc14
            have hS := hS.kept hc14 (fun g o h => (hg g o h).1)
            have hG := hG.kept hc14 (by omega)
            have hsz := Nat.le_trans hsz hc14.size
            have hB2 := hc14.at hB2 (by omega)
            have hB3 := hc14.at hB3 (by omega)
            refine WL.op (by decide) (FA57_4 rfl) ?_  -- msg.go:227 t110 := (Op.fieldAddr 57 t3 4)
            refine WL.eff rfl (OP.store1 sz9 rfl rfl rfl rfl hB3 (by rw [List.size_toArray, Rec.length rfl]; decide) rfl ?_)
            intro w15 hc15 hs15 hB3n
            have hB3 := hB3n
            rw [show (0 + 19 : Nat) = 19 from rfl, Rec.set19 rfl] at hB3
            have hC := hC.then hc15 (fun k hk e => by omega)
            have hG := hG.kept hc15 (by omega)
            have hS := hS.kept hc15 (fun g o h e => by have := hg g o h; omega)
            have hR := hc15.at hR (by omega)
            have hB2 := hc15.at hB2 (by omega)
            have hsz := Nat.le_trans hsz hc15.size
            refine WL.next ?_
            refine CW.rseq ?_  -- region 18
            refine WL.op (by decide) (R.move rfl) ?_  -- msg.go:228 t111 := (Op.move t0)
            refine WL.op (by decide) (R.nilCheck rfl) ?_  -- msg.go:228 t112 := (Op.nilCheck t111)
            refine WL.op (by decide) (FA100_1 rfl) ?_  -- msg.go:228 t113 := (Op.fieldAddr 100 t112 1)
            refine WL.op (by decide) (R.load Tryd.underlying3 rfl rfl (cell_at hR rfl)) ?_  -- msg.go:228 t114 := (Op.load 3 t113)
            refine WL.op (by decide) (R.move rfl) ?_  -- msg.go:228 t115 := (Op.move t6)
            refine WL.neqS (by decide) rfl rfl (fun h26 => ?_) (fun h26 => ?_)  -- msg.go:228 t116 := (Op.binOp BinOp.neq 3 t114 t115 3)
            · skip
              refine WL.next ?_
              refine CW.condT rfl ?_
              refine CW.region ?_  -- region 19
              refine WL.op (by decide) (R.move rfl) ?_  -- msg.go:229 t117 := (Op.move t0)
              refine WL.op (by decide) (R.nilCheck rfl) ?_  -- msg.go:229 t118 := (Op.nilCheck t117)
              refine WL.op (by decide) (FA100_2 rfl) ?_  -- msg.go:229 t119 := (Op.fieldAddr 100 t118 2)
              refine WL.eff rfl (OP.store1 sz4 rfl rfl rfl rfl hR (Nat.le_of_ble_eq_true rfl) rfl ?_)
              intro w16 hcs _ hR
              have hC := hC.trans hcs
              have hS := hS.kept hcs (fun g o h => (hg g o h).1)
              have hG := hG.kept hcs (by omega)
              have hsz := Nat.le_trans hsz hcs.size
              have hB2 := hcs.at hB2 (by omega)
              have hB3 := hcs.at hB3 (by omega)
              refine WL.nil ?_
              refine EW.inNormal ?_
              exact EW.cutK [0, 2, 3, 6] ⟨_, a6, true, rfl, rfl, ⟨hsl, Nat.le_trans hs2l (by decide), by simp⟩, hR, hC, hG, hsz, hB2, hB3, by rw [body_far (bs := bs) (nm := s) (ty := v2) (a := a5) (n := v5) (ttl := ttlOf v4) (by omega) hn2 (by omega)]; rfl⟩
            · skip
              refine WL.next ?_
              refine CW.condF rfl ?_
              refine CW.skip ?_
              refine EW.inNormal ?_
              exact EW.cutK [0, 2, 3, 6] ⟨_, a6, _, rfl, rfl, ⟨hsl, Nat.le_trans hs2l (by decide), by simp⟩, hR, hC, hG, hsz, hB2, hB3, body_near (bs := bs) (nm := s) (ty := v2) (a := a5) (n := v5) (ttl := ttlOf v4) (by omega) hn2 (by omega)⟩
          · skip
            refine WL.op (by decide) (R.move rfl) ?_  -- msg.go:226 t98 := (Op.move t97)
            refine WL.gop (by decide) rfl rfl rfl (FA57_1 rfl) ?_  -- msg.go:226 t99 := (Op.fieldAddr 57 t3 1) [guard 3 false]
            refine WL.gop (by decide) rfl rfl rfl (R.load (v := .int .i64 (v2 : Int)) Tryd.underlying3 rfl rfl (cell_at hB3 (Rec.at1 _))) ?_  -- msg.go:226 t100 := (Op.load 3 t99) [guard 3 false]
            refine WL.gsplit _ (by decide) rfl rfl rfl (R.eqlD rfl rfl) (fun h27 => ?_) (fun h27 => ?_)  -- msg.go:226 t101 := (Op.binOp BinOp.eql 3 t100 c(Value.int IntKind.i64 5) 3) [guard 3 false]
            · skip
              refine WL.op (by decide) (R.pickF rfl rfl) ?_  -- msg.go:226 t102 := (Op.pick t98 c(Value.bool true) t101)
              refine WL.op (by decide) (R.move rfl) ?_  -- msg.go:226 t103 := (Op.move t102)
              refine WL.pass (by decide) rfl rfl rfl ?_  -- msg.go:226 t104 := (Op.fieldAddr 57 t3 1) [guard 8 false]
              refine WL.pass (by decide) rfl rfl rfl ?_  -- msg.go:226 t105 := (Op.load 3 t104) [guard 8 false]
              refine WL.pass (by decide) rfl rfl rfl ?_  -- msg.go:226 t106 := (Op.binOp BinOp.eql 3 t105 c(Value.int IntKind.i64 12) 3) [guard 8 false]
              refine WL.op (by decide) (R.pickT rfl rfl) ?_  -- msg.go:226 t107 := (Op.pick t103 c(Value.bool true) t106)
              refine WL.op (by decide) (R.assign rfl) ?_  -- msg.go:226 t94 := (Op.assign t107)
              refine WL.next ?_
              refine CW.condT rfl ?_
              refine CW.rseq ?_  -- region 17
              refine WL.op (by decide) (R.move rfl) ?_  -- msg.go:227 t108 := (Op.move t0)
              refine WL.eff rfl (OP.call (by decide) Tryd.func46 (by kernel_rfl) (by kernel_rfl) rfl (rname_st rb _ m c bs a5 false _ hR hS (fun g o h => (hg g o h).1) hin9 hm) ?_)
              rintro ed w14 ⟨s2, a6, b6, rfl, hR, hc14, hn2, hs2l⟩
              refine ⟨_, rfl, ?_⟩
              have hC := hC.trans hc14
              have hS := hS.kept hc14 (fun g o h => (hg g o h).1)
              have hG := hG.kept hc14 (by omega)
              have hsz := Nat.le_trans hsz hc14.size
              have hB2 := hc14.at hB2 (by omega)
              have hB3 := hc14.at hB3 (by omega)
              refine WL.op (by decide) (FA57_4 rfl) ?_  -- msg.go:227 t110 := (Op.fieldAddr 57 t3 4)
              refine WL.eff rfl (OP.store1 sz9 rfl rfl rfl rfl hB3 (by rw [List.size_toArray, Rec.length rfl]; decide) rfl ?_)
              intro w15 hc15 hs15 hB3n
              have hB3 := hB3n
              rw [show (0 + 19 : Nat) = 19 from rfl, Rec.set19 rfl] at hB3
              have hC := hC.then hc15 (fun k hk e => by omega)
              have hG := hG.kept hc15 (by omega)
              have hS := hS.kept hc15 (fun g o h e => by have := hg g o h; omega)
              have hR := hc15.at hR (by omega)
              have hB2 := hc15.at hB2 (by omega)
              have hsz := Nat.le_trans hsz hc15.size
              refine WL.next ?_
              refine CW.rseq ?_  -- region 18
              refine WL.op (by decide) (R.move rfl) ?_  -- msg.go:228 t111 := (Op.move t0)
              refine WL.op (by decide) (R.nilCheck rfl) ?_  -- msg.go:228 t112 := (Op.nilCheck t111)
              refine WL.op (by decide) (FA100_1 rfl) ?_  -- msg.go:228 t113 := (Op.fieldAddr 100 t112 1)
              refine WL.op (by decide) (R.load Tryd.underlying3 rfl rfl (cell_at hR rfl)) ?_  -- msg.go:228 t114 := (Op.load 3 t113)
              refine WL.op (by decide) (R.move rfl) ?_  -- msg.go:228 t115 := (Op.move t6)
              refine WL.neqS (by decide) rfl rfl (fun h28 => ?_) (fun h28 => ?_)  -- msg.go:228 t116 := (Op.binOp BinOp.neq 3 t114 t115 3)
              · skip
                refine WL.next ?_
                refine CW.condT rfl ?_
                refine CW.region ?_  -- region 19
                refine WL.op (by decide) (R.move rfl) ?_  -- msg.go:229 t117 := (Op.move t0)
                refine WL.op (by decide) (R.nilCheck rfl) ?_  -- msg.go:229 t118 := (Op.nilCheck t117)
                refine WL.op (by decide) (FA100_2 rfl) ?_  -- msg.go:229 t119 := (Op.fieldAddr 100 t118 2)
                refine WL.eff rfl (OP.store1 sz4 rfl rfl rfl rfl hR (Nat.le_of_ble_eq_true rfl) rfl ?_)
                intro w16 hcs _ hR
                have hC := hC.trans hcs
                have hS := hS.kept hcs (fun g o h => (hg g o h).1)
                have hG := hG.kept hcs (by omega)
                have hsz := Nat.le_trans hsz hcs.size
                have hB2 := hcs.at hB2 (by omega)
                have hB3 := hcs.at hB3 (by omega)
                refine WL.nil ?_
                refine EW.inNormal ?_
                exact EW.cutK [0, 2, 3, 6] ⟨_, a6, true, rfl, rfl, ⟨hsl, Nat.le_trans hs2l (by decide), by simp⟩, hR, hC, hG, hsz, hB2, hB3, by rw [body_far (bs := bs) (nm := s) (ty := v2) (a := a5) (n := v5) (ttl := ttlOf v4) (by omega) hn2 (by omega)]; rfl⟩
              · skip
                refine WL.next ?_
                refine CW.condF rfl ?_
                refine CW.skip ?_
                refine EW.inNormal ?_
                exact EW.cutK [0, 2, 3, 6] ⟨_, a6, _, rfl, rfl, ⟨hsl, Nat.le_trans hs2l (by decide), by simp⟩, hR, hC, hG, hsz, hB2, hB3, body_near (bs := bs) (nm := s) (ty := v2) (a := a5) (n := v5) (ttl := ttlOf v4) (by omega) hn2 (by omega)⟩
            · skip
              refine WL.op (by decide) (R.pickF rfl rfl) ?_  -- msg.go:226 t102 := (Op.pick t98 c(Value.bool true) t101)
              refine WL.op (by decide) (R.move rfl) ?_  -- msg.go:226 t103 := (Op.move t102)
              refine WL.gop (by decide) rfl rfl rfl (FA57_1 rfl) ?_  -- msg.go:226 t104 := (Op.fieldAddr 57 t3 1) [guard 8 false]
              refine WL.gop (by decide) rfl rfl rfl (R.load (v := .int .i64 (v2 : Int)) Tryd.underlying3 rfl rfl (cell_at hB3 (Rec.at1 _))) ?_  -- msg.go:226 t105 := (Op.load 3 t104) [guard 8 false]
              refine WL.gsplit _ (by decide) rfl rfl rfl (R.eqlD rfl rfl) (fun h29 => ?_) (fun h29 => ?_)  -- msg.go:226 t106 := (Op.binOp BinOp.eql 3 t105 c(Value.int IntKind.i64 12) 3) [guard 8 false]
              · skip
                refine WL.op (by decide) (R.pickF rfl rfl) ?_  -- msg.go:226 t107 := (Op.pick t103 c(Value.bool true) t106)
                refine WL.op (by decide) (R.assign rfl) ?_  -- msg.go:226 t94 := (Op.assign t107)
                refine WL.next ?_
                refine CW.condT rfl ?_
                refine CW.rseq ?_  -- region 17
                refine WL.op (by decide) (R.move rfl) ?_  -- msg.go:227 t108 := (Op.move t0)
                refine WL.eff rfl (OP.call (by decide) Tryd.func46 (by kernel_rfl) (by kernel_rfl) rfl (rname_st rb _ m c bs a5 false _ hR hS (fun g o h => (hg g o h).1) hin9 hm) ?_)
                rintro ed w14 ⟨s2, a6, b6, rfl, hR, hc14, hn2, hs2l⟩
                refine ⟨_, rfl, ?_⟩
                have hC := hC.trans hc14
                have hS := hS.kept hc14 (fun g o h => (hg g o h).1)
                have hG := hG.kept hc14 (by omega)
                have hsz := Nat.le_trans hsz hc14.size
                have hB2 := hc14.at hB2 (by omega)
                have hB3 := hc14.at hB3 (by omega)
                refine WL.op (by decide) (FA57_4 rfl) ?_  -- msg.go:227 t110 := (Op.fieldAddr 57 t3 4)
                refine WL.eff rfl (OP.store1 sz9 rfl rfl rfl rfl hB3 (by rw [List.size_toArray, Rec.length rfl]; decide) rfl ?_)
                intro w15 hc15 hs15 hB3n
                have hB3 := hB3n
                rw [show (0 + 19 : Nat) = 19 from rfl, Rec.set19 rfl] at hB3
                have hC := hC.then hc15 (fun k hk e => by omega)
                have hG := hG.kept hc15 (by omega)
                have hS := hS.kept hc15 (fun g o h e => by have := hg g o h; omega)
                have hR := hc15.at hR (by omega)
                have hB2 := hc15.at hB2 (by omega)
                have hsz := Nat.le_trans hsz hc15.size
                refine WL.next ?_
                refine CW.rseq ?_  -- region 18
                refine WL.op (by decide) (R.move rfl) ?_  -- msg.go:228 t111 := (Op.move t0)
                refine WL.op (by decide) (R.nilCheck rfl) ?_  -- msg.go:228 t112 := (Op.nilCheck t111)
                refine WL.op (by decide) (FA100_1 rfl) ?_  -- msg.go:228 t113 := (Op.fieldAddr 100 t112 1)
                refine WL.op (by decide) (R.load Tryd.underlying3 rfl rfl (cell_at hR rfl)) ?_  -- msg.go:228 t114 := (Op.load 3 t113)
                refine WL.op (by decide) (R.move rfl) ?_  -- msg.go:228 t115 := (Op.move t6)
                refine WL.neqS (by decide) rfl rfl (fun h30 => ?_) (fun h30 => ?_)  -- msg.go:228 t116 := (Op.binOp BinOp.neq 3 t114 t115 3)
                · skip
                  refine WL.next ?_
                  refine CW.condT rfl ?_
                  refine CW.region ?_  -- region 19
                  refine WL.op (by decide) (R.move rfl) ?_  -- msg.go:229 t117 := (Op.move t0)
                  refine WL.op (by decide) (R.nilCheck rfl) ?_  -- msg.go:229 t118 := (Op.nilCheck t117)
                  refine WL.op (by decide) (FA100_2 rfl) ?_  -- msg.go:229 t119 := (Op.fieldAddr 100 t118 2)
                  refine WL.eff rfl (OP.store1 sz4 rfl rfl rfl rfl hR (Nat.le_of_ble_eq_true rfl) rfl ?_)
                  intro w16 hcs _ hR
                  have hC := hC.trans hcs
                  have hS := hS.kept hcs (fun g o h => (hg g o h).1)
                  have hG := hG.kept hcs (by omega)
                  have hsz := Nat.le_trans hsz hcs.size
                  have hB2 := hcs.at hB2 (by omega)
                  have hB3 := hcs.at hB3 (by omega)
                  refine WL.nil ?_
                  refine EW.inNormal ?_
                  exact EW.cutK [0, 2, 3, 6] ⟨_, a6, true, rfl, rfl, ⟨hsl, Nat.le_trans hs2l (by decide), by simp⟩, hR, hC, hG, hsz, hB2, hB3, by rw [body_far (bs := bs) (nm := s) (ty := v2) (a := a5) (n := v5) (ttl := ttlOf v4) (by omega) hn2 (by omega)]; rfl⟩
                · skip
                  refine WL.next ?_
                  refine CW.condF rfl ?_
                  refine CW.skip ?_
                  refine EW.inNormal ?_
                  exact EW.cutK [0, 2, 3, 6] ⟨_, a6, _, rfl, rfl, ⟨hsl, Nat.le_trans hs2l (by decide), by simp⟩, hR, hC, hG, hsz, hB2, hB3, body_near (bs := bs) (nm := s) (ty := v2) (a := a5) (n := v5) (ttl := ttlOf v4) (by omega) hn2 (by omega)⟩
              · skip
                refine WL.op (by decide) (R.pickF rfl rfl) ?_  -- msg.go:226 t107 := (Op.pick t103 c(Value.bool true) t106)
                refine WL.op (by decide) (R.assign rfl) ?_  -- msg.go:226 t94 := (Op.assign t107)
                refine WL.next ?_
                refine CW.condF rfl ?_
                refine CW.region ?_  -- region 10
                refine WL.op (by decide) (R.move rfl) ?_  -- msg.go:232 t64 := (Op.move t7)
                refine WL.op (by decide) (R.strOf (s := dat) rfl hdl hdat) ?_  -- msg.go:232 t65 := (Op.convert 36 9 t64)
                refine WL.op (by decide) (FA57_5 rfl) ?_  -- msg.go:232 t66 := (Op.fieldAddr 57 t3 5)
                refine WL.eff rfl (OP.store1 sz9 rfl rfl rfl rfl hB3 (by rw [List.size_toArray, Rec.length rfl]; decide) rfl ?_)
                intro w15 hc15 hs15 hB3n
                have hB3 := hB3n
                rw [show (0 + 20 : Nat) = 20 from rfl, Rec.set20 rfl] at hB3
                have hC := hC.then hc15 (fun k hk e => by omega)
                have hG := hG.kept hc15 (by omega)
                have hR := hc15.at hR (by omega)
                have hB2 := hc15.at hB2 (by omega)
                have hsz := Nat.le_trans hsz hc15.size
                refine WL.nil ?_
                refine EW.inNormal ?_
                exact EW.cutK [0, 2, 3, 6] ⟨_, a5, false, rfl, rfl, ⟨hsl, by simp, by show dat.length ≤ _; omega⟩, hR, hC, hG, hsz, hB2, hB3, by rw [body_other (bs := bs) (nm := s) (ty := v2) (a := a5) (n := v5) (ttl := ttlOf v4) (by omega) (by omega) (by omega)]; exact ⟨by rw [hdat0]; rfl, rfl⟩⟩
    · rintro l wr ⟨r, a', b', rfl, hr16, hsmall, hR, hC, hG, hsz, hB2, hB3, hres⟩
      refine CW.rseq ?_  -- region 20
      refine WL.op (by decide) (R.move rfl) ?_  -- msg.go:234 t120 := (Op.move t0)
      refine WL.op (by decide) (R.move rfl) ?_  -- msg.go:234 t121 := (Op.move t6)
      refine WL.op (by decide) (R.nilCheck rfl) ?_  -- msg.go:234 t122 := (Op.nilCheck t120)
      refine WL.op (by decide) (FA100_1 rfl) ?_  -- msg.go:234 t123 := (Op.fieldAddr 100 t122 1)
      refine WL.eff rfl (OP.store1 sz3 rfl rfl rfl rfl hR (Nat.le_of_ble_eq_true rfl) rfl ?_)
      intro w17 hc17 hs17 hRn
      have hR : RSt w17 rb (some ⟨g, o, none⟩) m c (a5 + v5) b' := hRn
      have hC := hC.trans hc17
      have hG := hG.kept hc17 (by omega)
      have hB2 := hc17.at hB2 (by omega)
      have hB3 := hc17.at hB3 (by omega)
      have hsz := Nat.le_trans hsz hc17.size
      refine WL.next ?_
      refine CW.seq ?_
      refine CW.rseq ?_  -- region 21
      refine WL.op (by decide) (R.loadRB hr16 rfl hB3) ?_  -- msg.go:235 t124 := (Op.load 57 t3)
      refine WL.eff rfl (OP.call (by decide) Tryd.func41 (by kernel_rfl) (by kernel_rfl) rfl (mright_any r _ hr16 hG hsmall.1 hsmall.2.1 hsmall.2.2) ?_)
      rintro ed w18 ⟨rfl, hc18⟩
      refine ⟨_, rfl, ?_⟩
      have hC := hC.trans (hc18.mono (fun _ _ h => h.elim))
      have hR := hc18.at hR (fun h => h)
      have hB2 := hc18.at hB2 (fun h => h)
      have hB3 := hc18.at hB3 (fun h => h)
      have hsz := Nat.le_trans hsz hc18.size
      cases hr : rightR r
      · skip
        refine WL.op (by decide) (R.not rfl) ?_
        refine WL.next ?_
        refine CW.condT rfl ?_
        refine CW.region ?_  -- region 22
        refine WL.op (by decide) (R.move rfl) ?_  -- msg.go:236 t127 := (Op.move t0)
        refine WL.op (by decide) (R.nilCheck rfl) ?_  -- msg.go:236 t128 := (Op.nilCheck t127)
        refine WL.op (by decide) (FA100_2 rfl) ?_  -- msg.go:236 t129 := (Op.fieldAddr 100 t128 2)
        refine WL.eff rfl (OP.store1 sz4 rfl rfl rfl rfl hR (Nat.le_of_ble_eq_true rfl) rfl ?_)
        intro w19 hc19 hs19 hR
        have hC := hC.trans hc19
        have hB2 := hc19.at hB2 (by omega)
        have hB3 := hc19.at hB3 (by omega)
        have hsz := Nat.le_trans hsz hc19.size
        refine WL.nil ?_
        refine EW.next ?_
        refine CW.rseq ?_  -- region 23
        refine WL.op (by decide) (R.loadRB hr16 rfl hB3) ?_  -- msg.go:238 t130 := (Op.load 57 t3)
        refine WL.eff rfl (OP.storeR rfl rfl hr16 rfl hB2 ?_)
        intro w20 hc20 hs20 hB2
        have hC := hC.then hc20 (fun k hk e => by omega)
        have hR := hc20.at hR (by omega)
        refine WL.next ?_
        refine CW.ret ?_
        exact EW.retC (.inl rfl) rfl rfl Tryd.underlying57 rfl (by rw [Rec.length hr16]; exact sz57) (fun j u hj => cell_at hB2 (by rw [List.getElem?_toArray]; exact hj)) ⟨r, a5 + v5, _, rfl, hr16, hR, hC, by rw [hbody]; exact rr_false hres hr, (fun _ => by omega), hsmall⟩
      · skip
        refine WL.op (by decide) (R.not rfl) ?_
        refine WL.next ?_
        refine CW.condF rfl ?_
        refine CW.skip ?_
        refine EW.next ?_
        refine CW.rseq ?_  -- region 23
        refine WL.op (by decide) (R.loadRB hr16 rfl hB3) ?_  -- msg.go:238 t130 := (Op.load 57 t3)
        refine WL.eff rfl (OP.storeR rfl rfl hr16 rfl hB2 ?_)
        intro w20 hc20 hs20 hB2
        have hC := hC.then hc20 (fun k hk e => by omega)
        have hR := hc20.at hR (by omega)
        refine WL.next ?_
        refine CW.ret ?_
        exact EW.retC (.inl rfl) rfl rfl Tryd.underlying57 rfl (by rw [Rec.length hr16]; exact sz57) (fun j u hj => cell_at hB2 (by rw [List.getElem?_toArray]; exact hj)) ⟨r, a5 + v5, _, rfl, hr16, hR, hC, by rw [hbody]; exact rr_true hres hr, (fun _ => by omega), hsmall⟩
end Go.Proofs.YthcpjcgjmdfpjaaDoor
