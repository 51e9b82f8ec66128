/- (*writer).record. -/
import Derived.Test.YthcpjcgjmdfpjaaDoorWName
namespace Go.Proofs.YthcpjcgjmdfpjaaDoor
open Go Go.RowKit
set_option maxRecDepth 100000
set_option maxHeartbeats 4000000

def wrHead (r : Rec) (b : List UInt8) : List UInt8 := b ++ beN 2 r.type ++ beN 2 1 ++ beN 4 r.ttl
def wrBody (r : Rec) (b : List UInt8) (at_ : At) : List UInt8 × At :=
  if r.type = 1 then (b ++ r.addr.drop 12, at_)
  else if r.type = 28 then (b ++ r.addr, at_)
  else if r.type = 2 ∨ r.type = 5 ∨ r.type = 12 then wrName r.text (b, at_)
  else (b ++ r.data, at_)
/-- The length of what stands behind a place, laid there. -/
def setN (b : List UInt8) (fr : Nat) : List UInt8 := (b.set fr (byteOf (((b.length : Int) - (fr : Int) - 2) / 2 ^ (8 : Int).toNat))).set (fr + 1) (byteOf ((b.length : Int) - (fr : Int) - 2))
/-- What is written of a record. -/
def wrRec (r : Rec) (st : List UInt8 × At) : List UInt8 × At :=
  (setN (wrBody r (wrHead r (wrName r.name st).1 ++ [0, 0]) (wrName r.name st).2).1 (wrHead r (wrName r.name st).1).length, (wrBody r (wrHead r (wrName r.name st).1 ++ [0, 0]) (wrName r.name st).2).2)
theorem wrHead_length (r : Rec) (b : List UInt8) : (wrHead r b).length = b.length + 8 := by simp [wrHead, beN_length]
theorem wrLabels_length : ∀ (ls : List (List UInt8)) (b : List UInt8) (at_ : At), (wrLabels ls b at_).1.length ≤ b.length + wlen ls + 2
  | [], b, at_ => by simp [wrLabels, wlen]
  | x :: xs, b, at_ => by
    unfold wrLabels
    split
    · simp [beN_length]; try omega
    · have := wrLabels_length xs (b ++ [byteOf (x.length : Nat)] ++ x) (if b.length < 16384 then at_ ++ [(joinL (x :: xs), b.length)] else at_)
      simp only [List.length_append, List.length_cons, List.length_nil, wlen] at this ⊢
      omega
theorem wrLabels_ge : ∀ (ls : List (List UInt8)) (b : List UInt8) (at_ : At), b.length ≤ (wrLabels ls b at_).1.length
  | [], b, at_ => by simp [wrLabels]
  | x :: xs, b, at_ => by
    unfold wrLabels
    split
    · simp
    · have := wrLabels_ge xs (b ++ [byteOf (x.length : Nat)] ++ x) (if b.length < 16384 then at_ ++ [(joinL (x :: xs), b.length)] else at_)
      simp only [List.length_append, List.length_cons, List.length_nil] at this ⊢
      omega
theorem wrName_length (s : List UInt8) (st : List UInt8 × At) : st.1.length ≤ (wrName s st).1.length ∧ (wrName s st).1.length ≤ st.1.length + s.length + 3 := by
  have h1 := wrLabels_length (splitL s) st.1 st.2
  have h2 := wrLabels_ge (splitL s) st.1 st.2
  rw [wlen_split] at h1
  exact ⟨h2, by unfold wrName; omega⟩
theorem wrBody_length (r : Rec) (b : List UInt8) (at_ : At) (h16 : r.addr.length = 16) : b.length ≤ (wrBody r b at_).1.length ∧ (wrBody r b at_).1.length ≤ b.length + r.text.length + r.data.length + 16 := by
  unfold wrBody
  have := wrName_length r.text (b, at_)
  simp only at this
  repeat' split
  all_goals first | omega | (simp [h16]; omega) | (simp; omega)
theorem setN_length (b : List UInt8) (fr : Nat) : (setN b fr).length = b.length := by simp [setN]
section
variable {r : Rec} {b : List UInt8} {at_ : At}
theorem body1 (h : r.type = 1) : wrBody r b at_ = (b ++ r.addr.drop 12, at_) := by rw [wrBody, if_pos h]
theorem body2 (h : r.type = 28) : wrBody r b at_ = (b ++ r.addr, at_) := by rw [wrBody, if_neg (by omega), if_pos h]
theorem body3 (h : r.type = 2 ∨ r.type = 5 ∨ r.type = 12) : wrBody r b at_ = ((wrName r.text (b, at_)).1, (wrName r.text (b, at_)).2) := by rw [wrBody, if_neg (by omega), if_neg (by omega), if_pos h]
theorem body4 (h1 : ¬ r.type = 1) (h2 : ¬ r.type = 28) (h : ¬ (r.type = 2 ∨ r.type = 5 ∨ r.type = 12)) : wrBody r b at_ = (b ++ r.data, at_) := by rw [wrBody, if_neg h1, if_neg h2, if_neg h]
end
theorem own_next2 {v v0 v2 : Value} {N K : Nat} (hown : v.ownBlock = v0.ownBlock ∨ ∃ q, v.ownBlock = some q ∧ N ≤ q) (h : v2.ownBlock = v.ownBlock ∨ ∃ q, v2.ownBlock = some q ∧ K ≤ q) (hz : N ≤ K) : v2.ownBlock = v0.ownBlock ∨ ∃ q, v2.ownBlock = some q ∧ N ≤ q := by
  rcases h with h | ⟨q, h1, h2⟩
  · rw [h]; exact hown
  · exact .inr ⟨q, h1, by omega⟩
theorem ne_next {v v2 : Value} {g K : Nat} (hne : ∀ k, v.ownBlock = some k → k ≠ g) (h : v2.ownBlock = v.ownBlock ∨ ∃ q, v2.ownBlock = some q ∧ K ≤ q) (hz : g < K) : ∀ k, v2.ownBlock = some k → k ≠ g := by
  intro k hk e
  rcases h with h | ⟨q, h1, h2⟩
  · exact hne k (h ▸ hk) e
  · rw [h1] at hk; injection hk with hk; omega
theorem buildSlice_00 (w : World) : (Instr.buildSlice 36 2 #[(0, .int .u8 0), (1, .int .u8 0)]).run Tryd.prog w = .ok (.slice (some ⟨w.heap.size, 0, none⟩) 2 2) (w.alloc (.cells #[u8v 0, u8v 0] 5)) := by kernel_rfl
theorem cells_two {w : World} {b : Nat} {x y : UInt8} (hb : w.heap[b]? = some (.cells #[u8v x, u8v y] 5 (0, 0))) : ∀ j u, ([x, y].map u8v)[j]? = some u → w.cell? ((⟨b, 0, none⟩ : Addr).add j) = some u := by
  intro j u hj
  rw [Addr.add_none, Nat.zero_add]
  exact cell_at hb (by rw [List.getElem?_toArray]; exact hj)
theorem addr_cells0 {w : World} {r : Rec} {b : Nat} (hb : w.heap[b]? = some (.cells r.cells.toArray 57 (0, 0))) (h16 : r.addr.length = 16) : ∀ j u, (r.addr.map u8v)[j]? = some u → w.cell? ((⟨b, 0 + 3 + 0, none⟩ : Addr).add j) = some u := by
  intro j u hj
  rw [Addr.add_none]
  exact cell_at hb (by rw [show 0 + 3 + 0 + j = 3 + j by omega]; exact Rec.atAddr hj)
theorem addr_cells12 {w : World} {r : Rec} {b : Nat} (hb : w.heap[b]? = some (.cells r.cells.toArray 57 (0, 0))) (h16 : r.addr.length = 16) : ∀ j u, ((r.addr.drop 12).map u8v)[j]? = some u → w.cell? ((⟨b, 0 + 3 + 12, none⟩ : Addr).add j) = some u := by
  intro j u hj
  rw [Addr.add_none]
  refine cell_at hb ?_
  rw [show 0 + 3 + 12 + j = 3 + (12 + j) by omega]
  refine Rec.atAddr ?_
  rw [List.map_drop, List.getElem?_drop] at hj
  exact hj
theorem Buf.addr {w : World} {base : Nat} {A : Option Addr} {m c : Nat} {bs : List UInt8} (h : Buf w base (.slice A m c) bs) (h0 : bs ≠ []) : ∃ g, A = some ⟨g, 0, none⟩ ∧ base ≤ g := by
  obtain ⟨g, cap, he, h1, _⟩ := h.open h0
  injection he with e1 e2 e3
  exact ⟨g, e1, h1⟩
/-- A byte of a buffer set. -/
theorem OP.setB {l : Env} {w : World} {x y : Operand} {t : TypeId} {n : Nat} {Q : Exit → Act → World → Prop} {M : Env → World → Prop} {pos : String} {af : Array Edge} {g base m c j : Nat} {bs : List UInt8} {b : UInt8} {o : Nat} (hB : Buf w base (.slice (some ⟨g, 0, none⟩) m c) bs) (hx : ev l x = some (.pointer (some ⟨g, o, none⟩))) (ho : o = 0 + j * 1) (hy : ev l y = some (u8v b)) (hj : j < bs.length)
    (h : ∀ w', Chg (fun k => k = g) w w' → w'.heap.size = w.heap.size → Buf w' base (.slice (some ⟨g, 0, none⟩) m c) (bs.set j b) → M l w') :
    OP Tryd.prog Q ⟨none, .store 5 x y, t, pos, af, none⟩ n l w M := by
  subst ho
  rcases hB.2 with ⟨h1, _⟩ | ⟨g', cap, cur, h1, hb, hg, hle, hm, hs, ht⟩
  · cases h1
  · injection h1 with e1 e2 e3
    injection e1 with e1
    injection e1 with e1
    subst e1 e2 e3
    have hcs : cur.size = c := by omega
    refine OP.store1 sz5 hx hy rfl rfl hg (by omega) rfl ?_
    intro w' hc hs' hg'
    refine h w' hc hs' ⟨by simp, .inr ⟨g, c, _, by simp, hb, hg', by simpa using hle, hm, by simpa using hs, ?_⟩⟩
    rw [Array.toList_setIfInBounds, List.length_set, List.map_set]
    have ht' : cur.toList.take bs.length = bs.map u8v := by simpa using ht
    rw [show bs.length * 1 = bs.length by omega, show 0 + j * 1 = j by omega, ← ht', List.take_set]

theorem wrec_any (wb mb base : Nat) (v0 : Value) (st : List UInt8 × At) (r : Rec) (w : World) (hW0 : WSt w wb mb base v0 st) (h16 : r.addr.length = 16) (hwb : wb < base) (hmb : mb < base) (hwm : wb ≠ mb) (hbase : base ≤ w.heap.size) (hbl0 : st.1.length ≤ 1000000000) (hs1 : r.name.length ≤ 131072) (hs2 : r.text.length ≤ 131072) (hs3 : r.data.length ≤ 131072) :
    Calls Tryd.prog 44 #[.pointer (some ⟨wb, 0, none⟩), r.val] w fun e w' => e = .returned (.tuple #[]) ∧ ∃ v', WSt w' wb mb base v' (wrRec r st) ∧ Chg (fun k => k = wb ∨ k = mb ∨ some k = v0.ownBlock) w w' ∧ (v'.ownBlock = v0.ownBlock ∨ ∃ q, v'.ownBlock = some q ∧ w.heap.size ≤ q) := by
  obtain ⟨hW, hB, hM⟩ := hW0
  have hB0 := hB
  refine calls_cw (args := [.pointer (some ⟨wb, 0, none⟩), r.val]) Tryd.func44 rfl rfl ?_
  show CW _ _ _ 110 [(0, .pointer (some ⟨wb, 0, none⟩)), (1, r.val)] w
  refine CW.rseq ?_  -- region 0
  refine WL.eff rfl (OP.box (by decide) rfl ?_)
  intro w1 hc1 hs1 hRBn
  have hRB : w1.heap[w.heap.size]? = some (.cells r.cells.toArray 57 (0, 0)) := hRBn
  clear hRBn
  have hW := hc1.at hW (fun h => h)
  have hB := hB.kept hc1 (fun _ _ h => h)
  have hM := hM.kept hc1 (fun h => h)
  have hC : Chg (fun k => k = wb ∨ k = mb ∨ some k = v0.ownBlock) w w1 := hc1.mono (fun _ _ h => h.elim)
  have hown : v0.ownBlock = v0.ownBlock ∨ ∃ q, v0.ownBlock = some q ∧ w.heap.size ≤ q := .inl rfl
  have hne : ∀ k, v0.ownBlock = some k → k ≠ w.heap.size := fun k hk e => by have := hB0.lt k hk; omega
  have hgt : w.heap.size < w1.heap.size := by omega
  refine WL.next ?_
  refine CW.rseq ?_  -- region 1
  refine WL.op (by decide) (R.move rfl) ?_  -- msg.go:42 t6 := (Op.move t0)
  refine WL.op (by decide) (FA57_0 rfl) ?_  -- msg.go:42 t7 := (Op.fieldAddr 57 t3 0)
  refine WL.op (by decide) (R.load Tryd.underlying9 rfl rfl (cell_at hRB r.at0)) ?_  -- msg.go:42 t8 := (Op.load 9 t7)
  refine WL.eff rfl (OP.call (by decide) Tryd.func43 (by kernel_rfl) (by kernel_rfl) rfl (wname_any wb mb base _ st r.name _ ⟨hW, hB, hM⟩ hwb hmb hwm (by omega) (by first | omega | (show List.length _ ≤ _; simp only [List.length_append, beN_length, List.length_cons, List.length_nil]; omega)) (by omega)) ?_)
  rintro ed w2 ⟨rfl, vw2, ⟨hW, hB2, hM⟩, hc2, hown2⟩
  refine ⟨_, rfl, ?_⟩
  have hRB := hc2.at hRB (fun e => by rcases e with e | e | e <;> first | omega | exact hne _ e.symm rfl)
  have hC := hC.then hc2 (fun k hk e => by rcases e with e | e | e; exact .inl e; exact .inr (.inl e); exact .inr (.inr (own_back hown e hk)))
  have hown := own_next2 hown hown2 (by omega)
  have hne := ne_next hne hown2 (by omega)
  have hgt := Nat.lt_of_lt_of_le hgt hc2.size
  have hB := hB2
  clear hB2 hown2
  have hln := wrName_length r.name st
  have hlh : (wrHead r (wrName r.name st).1).length = (wrName r.name st).1.length + 8 := wrHead_length _ _
  refine WL.next ?_
  refine CW.seq ?_
  refine CW.draw (fun w0 => w0.heap[w.heap.size]? = some (.cells r.cells.toArray 57 (0, 0))) (by kernel_rfl) ?_
  have hC := hC.trans (Chg.drew _ _)
  have hM := hM.kept (Chg.drew (fun _ => False) _) (fun h => h)
  have hB := hB.kept (Chg.drew (fun _ => False) _) (fun _ _ h => h)
  have hgt := Nat.lt_of_lt_of_le hgt (Chg.drew (fun _ => False) _).size
  refine AH.take 0 rfl (by kernel_rfl) (by kernel_rfl) (by kernel_rfl) (fun _ _ _ _ h => h) hRB (by decide) (fun w hS => R.move rfl) ?_  -- msg.go:43 t10 := (Op.move t0)
  refine AH.take 1 rfl (by kernel_rfl) (by kernel_rfl) (by kernel_rfl) (fun _ _ _ _ h => h) hRB (by decide) (fun w hS => R.move rfl) ?_  -- msg.go:43 t11 := (Op.move t0)
  refine AH.take 2 rfl (by kernel_rfl) (by kernel_rfl) (by kernel_rfl) (fun _ _ _ _ h => h) hRB (by decide) (fun w hS => R.nilCheck rfl) ?_  -- msg.go:43 t12 := (Op.nilCheck t11)
  refine AH.take 3 rfl (by kernel_rfl) (by kernel_rfl) (by kernel_rfl) (fun _ _ _ _ h => h) hRB (by decide) (fun w hS => FA93_0 rfl) ?_  -- msg.go:43 t13 := (Op.fieldAddr 93 t12 0)
  refine AH.take 5 rfl (by kernel_rfl) (by kernel_rfl) (by kernel_rfl) (fun _ _ _ _ h => h) hRB (by decide) (fun w hS => FA57_1 rfl) ?_  -- msg.go:43 t15 := (Op.fieldAddr 57 t3 1)
  refine AH.take 6 rfl (by kernel_rfl) (by kernel_rfl) (by kernel_rfl) (fun _ _ _ _ h => h) hRB (by decide) (fun w hS => R.load Tryd.underlying3 rfl rfl (cell_at hS r.at1)) ?_  -- msg.go:43 t16 := (Op.load 3 t15)
  refine AH.take 9 rfl (by kernel_rfl) (by kernel_rfl) (by kernel_rfl) (fun _ _ _ _ h => h) hRB (by decide) (fun w hS => FA57_2 rfl) ?_  -- msg.go:43 t19 := (Op.fieldAddr 57 t3 2)
  refine AH.take 10 rfl (by kernel_rfl) (by kernel_rfl) (by kernel_rfl) (fun _ _ _ _ h => h) hRB (by decide) (fun w hS => R.load Tryd.underlying3 rfl rfl (cell_at hS r.at2)) ?_  -- msg.go:43 t20 := (Op.load 3 t19)
  refine AH.eff 4 (by kernel_rfl) rfl rfl (OP.val (by decide) (R.load Tryd.underlying36 rfl rfl (cell_at hW rfl)) ?_)
  refine ⟨hRB, ?_⟩
  refine AH.eff 7 (by kernel_rfl) rfl rfl (OP.call (by decide) Tryd.func42 (by kernel_rfl) (by kernel_rfl) rfl (put_any base _ _ 2 _ _ (by decide) hB (by omega) (by first | omega | (simp only [List.length_append, wrHead_length, beN_length, List.length_cons, List.length_nil, List.length_drop, List.length_set, h16]; omega))) ?_)
  rintro ed w10 ⟨vw10, rfl, hB2, hMv⟩
  refine ⟨_, rfl, ?_, ?_⟩
  · exact (Chg.moved hMv).at hRB (fun e => hne _ e.symm rfl)
  have hcm := Chg.moved hMv
  have hW := hcm.at hW (fun e => by have := hB.lt _ e.symm; omega)
  have hM := hM.kept hcm (fun e => by have := hB.lt _ e.symm; omega)
  have hRB := hcm.at hRB (fun e => hne _ e.symm rfl)
  have hC := hC.then hcm (fun k hk e => .inr (.inr (own_back hown e hk)))
  have hown := own_next hown hMv (by omega)
  have hne := ne_next hne hMv.at_ (by omega)
  have hgt := Nat.lt_of_lt_of_le hgt hcm.size
  have hB := hB2
  clear hB2 hMv
  refine AH.eff 8 (by kernel_rfl) rfl rfl (OP.call (by decide) Tryd.func42 (by kernel_rfl) (by kernel_rfl) rfl (put_any base _ _ 2 _ _ (by decide) hB (by omega) (by first | omega | (simp only [List.length_append, wrHead_length, beN_length, List.length_cons, List.length_nil, List.length_drop, List.length_set, h16]; omega))) ?_)
  rintro ed w11 ⟨vw11, rfl, hB2, hMv⟩
  refine ⟨_, rfl, ?_, ?_⟩
  · exact (Chg.moved hMv).at hRB (fun e => hne _ e.symm rfl)
  have hcm := Chg.moved hMv
  have hW := hcm.at hW (fun e => by have := hB.lt _ e.symm; omega)
  have hM := hM.kept hcm (fun e => by have := hB.lt _ e.symm; omega)
  have hRB := hcm.at hRB (fun e => hne _ e.symm rfl)
  have hC := hC.then hcm (fun k hk e => .inr (.inr (own_back hown e hk)))
  have hown := own_next hown hMv (by omega)
  have hne := ne_next hne hMv.at_ (by omega)
  have hgt := Nat.lt_of_lt_of_le hgt hcm.size
  have hB := hB2
  clear hB2 hMv
  refine AH.eff 11 (by kernel_rfl) rfl rfl (OP.call (by decide) Tryd.func42 (by kernel_rfl) (by kernel_rfl) rfl (put_any base _ _ 4 _ _ (by decide) hB (by omega) (by first | omega | (simp only [List.length_append, wrHead_length, beN_length, List.length_cons, List.length_nil, List.length_drop, List.length_set, h16]; omega))) ?_)
  rintro ed w12 ⟨vw12, rfl, hB2, hMv⟩
  refine ⟨_, rfl, ?_, ?_⟩
  · exact (Chg.moved hMv).at hRB (fun e => hne _ e.symm rfl)
  have hcm := Chg.moved hMv
  have hW := hcm.at hW (fun e => by have := hB.lt _ e.symm; omega)
  have hM := hM.kept hcm (fun e => by have := hB.lt _ e.symm; omega)
  have hRB := hcm.at hRB (fun e => hne _ e.symm rfl)
  have hC := hC.then hcm (fun k hk e => .inr (.inr (own_back hown e hk)))
  have hown := own_next hown hMv (by omega)
  have hne := ne_next hne hMv.at_ (by omega)
  have hgt := Nat.lt_of_lt_of_le hgt hcm.size
  have hB := hB2
  clear hB2 hMv
  refine AH.eff 12 (by kernel_rfl) rfl rfl (OP.val (by decide) (R.nilCheck rfl) ?_)
  refine ⟨hRB, ?_⟩
  refine AH.eff 13 (by kernel_rfl) rfl rfl (OP.val (by decide) (FA93_0 rfl) ?_)
  refine ⟨hRB, ?_⟩
  refine AH.eff 14 (by kernel_rfl) rfl rfl (OP.store1 sz36 rfl rfl hB.one.1 hB.one.2 hW (Nat.le_of_ble_eq_true rfl) rfl ?_)
  intro w13 hc13 _ hW
  have hM := hM.kept hc13 (fun e => by omega)
  have hB := hB.kept hc13 (fun k hk e => by have := hB.lt k hk; omega)
  have hRB := hc13.at hRB (by omega)
  have hC := hC.then hc13 (fun k hk e => .inl e)
  have hgt := Nat.lt_of_lt_of_le hgt hc13.size
  refine ⟨hRB, ?_⟩
  refine AH.done (by kernel_rfl) ?_
  refine EW.next ?_
  refine CW.rseq ?_  -- region 3
  refine WL.op (by decide) (R.move rfl) ?_  -- msg.go:44 t24 := (Op.move t0)
  refine WL.op (by decide) (R.nilCheck rfl) ?_  -- msg.go:44 t25 := (Op.nilCheck t24)
  refine WL.op (by decide) (FA93_0 rfl) ?_  -- msg.go:44 t26 := (Op.fieldAddr 93 t25 0)
  obtain ⟨ab, cb, rfl⟩ := hB.slice
  refine WL.op (by decide) (R.load (v := .slice ab (wrHead r (wrName r.name st).1).length cb) Tryd.underlying36 rfl rfl (cell_at hW rfl)) ?_
  refine WL.op (by decide) (R.lenSlice (m := (wrHead r (wrName r.name st).1).length) rfl Tryd.underlying36 rfl) ?_  -- msg.go:44 t28 := (Op.call (Call.mk (Callee.builtin Builtin.len) [t27] [36]))
  refine WL.op (by decide) (R.assign rfl) ?_  -- msg.go:44 t4 := (Op.assign t28)
  refine WL.next ?_
  refine CW.rseq ?_  -- region 4
  refine WL.op (by decide) (R.move rfl) ?_  -- msg.go:45 t29 := (Op.move t0)
  refine WL.op (by decide) (R.move rfl) ?_  -- msg.go:45 t30 := (Op.move t0)
  refine WL.op (by decide) (R.nilCheck rfl) ?_  -- msg.go:45 t31 := (Op.nilCheck t30)
  refine WL.op (by decide) (FA93_0 rfl) ?_  -- msg.go:45 t32 := (Op.fieldAddr 93 t31 0)
  refine WL.op (by decide) (R.load Tryd.underlying36 rfl rfl (cell_at hW rfl)) ?_  -- msg.go:45 t33 := (Op.load 36 t32)
  refine WL.eff rfl (OP.buildSlice (parts := [(0, _), (1, _)]) (vals := [(0, _), (1, _)]) (by decide) rfl buildSlice_00 ?_)
  intro w20 hc20 hs20 hb20
  have hW := hc20.at hW (fun h => h)
  have hB := hB.kept hc20 (fun _ _ h => h)
  have hM := hM.kept hc20 (fun h => h)
  have hRB := hc20.at hRB (fun h => h)
  have hC := hC.then hc20 (fun k hk e => e.elim)
  have hgt := Nat.lt_of_lt_of_le hgt hc20.size
  refine WL.eff rfl (OP.append [0, 0] (by decide) rfl rfl hB rfl (cells_two hb20) (by first | omega | (simp only [List.length_append, wrHead_length, beN_length, List.length_cons, List.length_nil, List.length_drop, List.length_set, h16]; omega)) (by omega) ?_)
  intro v21 w21 hB2 hMv
  have hcm := Chg.moved hMv
  have hW := hcm.at hW (fun e => by have := hB.lt _ e.symm; omega)
  have hM := hM.kept hcm (fun e => by have := hB.lt _ e.symm; omega)
  have hRB := hcm.at hRB (fun e => hne _ e.symm rfl)
  have hC := hC.then hcm (fun k hk e => .inr (.inr (own_back hown e hk)))
  have hown := own_next hown hMv (by omega)
  have hne := ne_next hne hMv.at_ (by omega)
  have hgt := Nat.lt_of_lt_of_le hgt hcm.size
  have hB := hB2
  clear hB2 hMv
  refine WL.op (by decide) (R.nilCheck rfl) ?_  -- msg.go:45 t36 := (Op.nilCheck t29)
  refine WL.op (by decide) (FA93_0 rfl) ?_  -- msg.go:45 t37 := (Op.fieldAddr 93 t36 0)
  refine WL.eff rfl (OP.store1 sz36 rfl rfl hB.one.1 hB.one.2 hW (Nat.le_of_ble_eq_true rfl) rfl ?_)
  intro w22 hc22 _ hW
  have hM := hM.kept hc22 (fun e => by omega)
  have hB := hB.kept hc22 (fun k hk e => by have := hB.lt k hk; omega)
  have hRB := hc22.at hRB (by omega)
  have hC := hC.then hc22 (fun k hk e => .inl e)
  have hgt := Nat.lt_of_lt_of_le hgt hc22.size
  refine WL.next ?_
  refine CW.cut (fun l wr => ∃ (v : Value) (b3 : List UInt8) (at3 : At), l = [(0, .pointer (some ⟨wb, 0, none⟩)), (4, .int .i64 ((wrHead r (wrName r.name st).1).length : Nat))] ∧ wr.heap[wb]? = some (.cells #[v, .map (some mb)] 93 (0, 0)) ∧ Buf wr base v b3 ∧ WMap wr mb at3 ∧ Chg (fun k => k = wb ∨ k = mb ∨ some k = v0.ownBlock) w wr ∧ (v.ownBlock = v0.ownBlock ∨ ∃ q, v.ownBlock = some q ∧ w.heap.size ≤ q) ∧ wrBody r (wrHead r (wrName r.name st).1 ++ [0, 0]) (wrName r.name st).2 = (b3, at3) ∧ w.heap.size < wr.heap.size) ?_ ?_
  · -- the cut part
    refine CW.rseq ?_  -- region 5
    refine WL.op (by decide) (FA57_1 rfl) ?_  -- msg.go:46 t38 := (Op.fieldAddr 57 t3 1)
    refine WL.op (by decide) (R.load Tryd.underlying3 rfl rfl (cell_at hRB r.at1)) ?_  -- msg.go:46 t39 := (Op.load 3 t38)
    refine WL.next ?_
    refine CW.block ?_
    refine CW.seq ?_
    refine CW.block ?_
    refine CW.seq ?_
    refine CW.block ?_
    refine CW.block ?_
    refine CW.block ?_
    refine CW.seq ?_
    refine CW.block ?_
    refine CW.seq ?_
    refine CW.block ?_
    refine CW.seq ?_
    refine CW.seq ?_
    refine CW.rseq ?_  -- region 6
    refine WL.eqlS (by decide) rfl rfl (fun h1 => ?_) (fun h1 => ?_)  -- msg.go:47 t41 := (Op.binOp BinOp.eql 3 t39 c(Value.int IntKind.i64 1) 3)
    · skip
      refine WL.op (by decide) (R.assign rfl) ?_  -- msg.go:47 t40 := (Op.assign t41)
      refine WL.next ?_
      refine CW.condT rfl ?_
      refine CW.exit ?_
      refine EW.thenExit ?_
      refine EW.thenExit ?_
      refine EW.inHere ?_
      refine EW.next ?_
      refine CW.seq ?_
      refine CW.draw (fun w0 => w0.heap[w.heap.size]? = some (.cells r.cells.toArray 57 (0, 0))) (by kernel_rfl) ?_
      have hC := hC.trans (Chg.drew _ _)
      have hM := hM.kept (Chg.drew (fun _ => False) _) (fun h => h)
      have hB := hB.kept (Chg.drew (fun _ => False) _) (fun _ _ h => h)
      have hgt := Nat.lt_of_lt_of_le hgt (Chg.drew (fun _ => False) _).size
      refine AH.take 0 rfl (by kernel_rfl) (by kernel_rfl) (by kernel_rfl) (fun _ _ _ _ h => h) hRB (by decide) (fun w hS => R.move rfl) ?_  -- msg.go:48 t50 := (Op.move t0)
      refine AH.take 1 rfl (by kernel_rfl) (by kernel_rfl) (by kernel_rfl) (fun _ _ _ _ h => h) hRB (by decide) (fun w hS => R.move rfl) ?_  -- msg.go:48 t51 := (Op.move t0)
      refine AH.take 2 rfl (by kernel_rfl) (by kernel_rfl) (by kernel_rfl) (fun _ _ _ _ h => h) hRB (by decide) (fun w hS => R.nilCheck rfl) ?_  -- msg.go:48 t52 := (Op.nilCheck t51)
      refine AH.take 3 rfl (by kernel_rfl) (by kernel_rfl) (by kernel_rfl) (fun _ _ _ _ h => h) hRB (by decide) (fun w hS => FA93_0 rfl) ?_  -- msg.go:48 t53 := (Op.fieldAddr 93 t52 0)
      refine AH.take 5 rfl (by kernel_rfl) (by kernel_rfl) (by kernel_rfl) (fun _ _ _ _ h => h) hRB (by decide) (fun w hS => FA57_3 rfl) ?_  -- msg.go:48 t55 := (Op.fieldAddr 57 t3 3)
      refine AH.take 6 rfl (by kernel_rfl) (by kernel_rfl) (by kernel_rfl) (fun _ _ _ _ h => h) hRB (by decide) (fun w hS => R.sliceArr (lv := some (.int .i64 12)) (hv := none) (l1 := 12) (h1 := 16) Tryd.underlying27 sz5 rfl rfl rfl (by kernel_rfl) (by decide)) ?_  -- msg.go:48 t56 := (Op.slice 27 t55 (some c(Value.int IntKind.i64 12)) none none)
      refine AH.eff 4 (by kernel_rfl) rfl rfl (OP.val (by decide) (R.load Tryd.underlying36 rfl rfl (cell_at hW rfl)) ?_)
      refine ⟨hRB, ?_⟩
      refine AH.eff 7 (by kernel_rfl) rfl rfl (OP.append (r.addr.drop 12) (by decide) rfl rfl hB (by simp [h16]) (addr_cells12 hRB h16) (by first | omega | (simp only [List.length_append, wrHead_length, beN_length, List.length_cons, List.length_nil, List.length_drop, List.length_set, h16]; omega)) (by omega) ?_)
      intro vw30 w30 hB2 hMv
      refine ⟨(Chg.moved hMv).at hRB (fun e => hne _ e.symm rfl), ?_⟩
      have hcm := Chg.moved hMv
      have hW := hcm.at hW (fun e => by have := hB.lt _ e.symm; omega)
      have hM := hM.kept hcm (fun e => by have := hB.lt _ e.symm; omega)
      have hRB := hcm.at hRB (fun e => hne _ e.symm rfl)
      have hC := hC.then hcm (fun k hk e => .inr (.inr (own_back hown e hk)))
      have hown := own_next hown hMv (by omega)
      have hne := ne_next hne hMv.at_ (by omega)
      have hgt := Nat.lt_of_lt_of_le hgt hcm.size
      have hB := hB2
      clear hB2 hMv
      refine AH.eff 8 (by kernel_rfl) rfl rfl (OP.val (by decide) (R.nilCheck rfl) ?_)
      refine ⟨hRB, ?_⟩
      refine AH.eff 9 (by kernel_rfl) rfl rfl (OP.val (by decide) (FA93_0 rfl) ?_)
      refine ⟨hRB, ?_⟩
      refine AH.eff 10 (by kernel_rfl) rfl rfl (OP.store1 sz36 rfl rfl hB.one.1 hB.one.2 hW (Nat.le_of_ble_eq_true rfl) rfl ?_)
      intro w31 hc31 _ hW
      have hM := hM.kept hc31 (fun e => by omega)
      have hB := hB.kept hc31 (fun k hk e => by have := hB.lt k hk; omega)
      have hRB := hc31.at hRB (by omega)
      have hC := hC.then hc31 (fun k hk e => .inl e)
      have hgt := Nat.lt_of_lt_of_le hgt hc31.size
      refine ⟨hRB, ?_⟩
      refine AH.done (by kernel_rfl) ?_
      refine EW.next ?_
      refine CW.exit ?_
      refine EW.inFar (by decide) ?_
      refine EW.thenExit ?_
      refine EW.inFar (by decide) ?_
      refine EW.inFar (by decide) ?_
      refine EW.inFar (by decide) ?_
      refine EW.thenExit ?_
      refine EW.inFar (by decide) ?_
      refine EW.thenExit ?_
      refine EW.inHere ?_
      exact EW.cutK [0, 4] ⟨_, _, _, rfl, hW, hB, hM, hC, hown, body1 (by omega), hgt⟩
    · skip
      refine WL.op (by decide) (R.assign rfl) ?_  -- msg.go:47 t40 := (Op.assign t41)
      refine WL.next ?_
      refine CW.condF rfl ?_
      refine CW.skip ?_
      refine EW.next ?_
      refine CW.seq ?_
      refine CW.rseq ?_  -- region 7
      refine WL.eqlS (by decide) rfl rfl (fun h2 => ?_) (fun h2 => ?_)  -- msg.go:49 t43 := (Op.binOp BinOp.eql 3 t39 c(Value.int IntKind.i64 28) 3)
      · skip
        refine WL.op (by decide) (R.assign rfl) ?_  -- msg.go:49 t42 := (Op.assign t43)
        refine WL.next ?_
        refine CW.condT rfl ?_
        refine CW.exit ?_
        refine EW.thenExit ?_
        refine EW.thenExit ?_
        refine EW.inFar (by decide) ?_
        refine EW.thenExit ?_
        refine EW.inHere ?_
        refine EW.next ?_
        refine CW.seq ?_
        refine CW.draw (fun w0 => w0.heap[w.heap.size]? = some (.cells r.cells.toArray 57 (0, 0))) (by kernel_rfl) ?_
        have hC := hC.trans (Chg.drew _ _)
        have hM := hM.kept (Chg.drew (fun _ => False) _) (fun h => h)
        have hB := hB.kept (Chg.drew (fun _ => False) _) (fun _ _ h => h)
        have hgt := Nat.lt_of_lt_of_le hgt (Chg.drew (fun _ => False) _).size
        refine AH.take 0 rfl (by kernel_rfl) (by kernel_rfl) (by kernel_rfl) (fun _ _ _ _ h => h) hRB (by decide) (fun w hS => R.move rfl) ?_  -- msg.go:50 t60 := (Op.move t0)
        refine AH.take 1 rfl (by kernel_rfl) (by kernel_rfl) (by kernel_rfl) (fun _ _ _ _ h => h) hRB (by decide) (fun w hS => R.move rfl) ?_  -- msg.go:50 t61 := (Op.move t0)
        refine AH.take 2 rfl (by kernel_rfl) (by kernel_rfl) (by kernel_rfl) (fun _ _ _ _ h => h) hRB (by decide) (fun w hS => R.nilCheck rfl) ?_  -- msg.go:50 t62 := (Op.nilCheck t61)
        refine AH.take 3 rfl (by kernel_rfl) (by kernel_rfl) (by kernel_rfl) (fun _ _ _ _ h => h) hRB (by decide) (fun w hS => FA93_0 rfl) ?_  -- msg.go:50 t63 := (Op.fieldAddr 93 t62 0)
        refine AH.take 5 rfl (by kernel_rfl) (by kernel_rfl) (by kernel_rfl) (fun _ _ _ _ h => h) hRB (by decide) (fun w hS => FA57_3 rfl) ?_  -- msg.go:50 t65 := (Op.fieldAddr 57 t3 3)
        refine AH.take 6 rfl (by kernel_rfl) (by kernel_rfl) (by kernel_rfl) (fun _ _ _ _ h => h) hRB (by decide) (fun w hS => R.sliceArr (lv := none) (hv := none) (l1 := 0) (h1 := 16) Tryd.underlying27 sz5 rfl rfl rfl (by kernel_rfl) (by decide)) ?_  -- msg.go:50 t66 := (Op.slice 27 t65 none none none)
        refine AH.eff 4 (by kernel_rfl) rfl rfl (OP.val (by decide) (R.load Tryd.underlying36 rfl rfl (cell_at hW rfl)) ?_)
        refine ⟨hRB, ?_⟩
        refine AH.eff 7 (by kernel_rfl) rfl rfl (OP.append (r.addr) (by decide) rfl rfl hB (by simp [h16]) (addr_cells0 hRB h16) (by first | omega | (simp only [List.length_append, wrHead_length, beN_length, List.length_cons, List.length_nil, List.length_drop, List.length_set, h16]; omega)) (by omega) ?_)
        intro vw30 w30 hB2 hMv
        refine ⟨(Chg.moved hMv).at hRB (fun e => hne _ e.symm rfl), ?_⟩
        have hcm := Chg.moved hMv
        have hW := hcm.at hW (fun e => by have := hB.lt _ e.symm; omega)
        have hM := hM.kept hcm (fun e => by have := hB.lt _ e.symm; omega)
        have hRB := hcm.at hRB (fun e => hne _ e.symm rfl)
        have hC := hC.then hcm (fun k hk e => .inr (.inr (own_back hown e hk)))
        have hown := own_next hown hMv (by omega)
        have hne := ne_next hne hMv.at_ (by omega)
        have hgt := Nat.lt_of_lt_of_le hgt hcm.size
        have hB := hB2
        clear hB2 hMv
        refine AH.eff 8 (by kernel_rfl) rfl rfl (OP.val (by decide) (R.nilCheck rfl) ?_)
        refine ⟨hRB, ?_⟩
        refine AH.eff 9 (by kernel_rfl) rfl rfl (OP.val (by decide) (FA93_0 rfl) ?_)
        refine ⟨hRB, ?_⟩
        refine AH.eff 10 (by kernel_rfl) rfl rfl (OP.store1 sz36 rfl rfl hB.one.1 hB.one.2 hW (Nat.le_of_ble_eq_true rfl) rfl ?_)
        intro w31 hc31 _ hW
        have hM := hM.kept hc31 (fun e => by omega)
        have hB := hB.kept hc31 (fun k hk e => by have := hB.lt k hk; omega)
        have hRB := hc31.at hRB (by omega)
        have hC := hC.then hc31 (fun k hk e => .inl e)
        have hgt := Nat.lt_of_lt_of_le hgt hc31.size
        refine ⟨hRB, ?_⟩
        refine AH.done (by kernel_rfl) ?_
        refine EW.next ?_
        refine CW.exit ?_
        refine EW.inFar (by decide) ?_
        refine EW.inFar (by decide) ?_
        refine EW.inFar (by decide) ?_
        refine EW.thenExit ?_
        refine EW.inFar (by decide) ?_
        refine EW.thenExit ?_
        refine EW.inHere ?_
        exact EW.cutK [0, 4] ⟨_, _, _, rfl, hW, hB, hM, hC, hown, body2 (by omega), hgt⟩
      · skip
        refine WL.op (by decide) (R.assign rfl) ?_  -- msg.go:49 t42 := (Op.assign t43)
        refine WL.next ?_
        refine CW.condF rfl ?_
        refine CW.skip ?_
        refine EW.next ?_
        refine CW.seq ?_
        refine CW.rseq ?_  -- region 8
        refine WL.eqlS (by decide) rfl rfl (fun h3 => ?_) (fun h3 => ?_)  -- msg.go:51 t45 := (Op.binOp BinOp.eql 3 t39 c(Value.int IntKind.i64 2) 3)
        · skip
          refine WL.op (by decide) (R.assign rfl) ?_  -- msg.go:51 t44 := (Op.assign t45)
          refine WL.next ?_
          refine CW.condT rfl ?_
          refine CW.exit ?_
          refine EW.thenExit ?_
          refine EW.thenExit ?_
          refine EW.inFar (by decide) ?_
          refine EW.thenExit ?_
          refine EW.inFar (by decide) ?_
          refine EW.thenExit ?_
          refine EW.inHere ?_
          refine EW.inNormal ?_
          refine EW.inNormal ?_
          refine EW.next ?_
          refine CW.rseq ?_  -- region 13
          refine WL.op (by decide) (R.move rfl) ?_  -- msg.go:56 t70 := (Op.move t0)
          refine WL.op (by decide) (FA57_4 rfl) ?_  -- msg.go:56 t71 := (Op.fieldAddr 57 t3 4)
          refine WL.op (by decide) (R.load Tryd.underlying9 rfl rfl (cell_at hRB (Rec.at19 h16))) ?_  -- msg.go:56 t72 := (Op.load 9 t71)
          refine WL.eff rfl (OP.call (by decide) Tryd.func43 (by kernel_rfl) (by kernel_rfl) rfl (wname_any wb mb base _ (_, _) r.text _ ⟨hW, hB, hM⟩ hwb hmb hwm (by omega) (by first | omega | (show List.length _ ≤ _; simp only [List.length_append, beN_length, List.length_cons, List.length_nil]; omega)) (by omega)) ?_)
          rintro ed w30 ⟨rfl, vw30, ⟨hW, hB2, hM⟩, hc30, hown2⟩
          refine ⟨_, rfl, ?_⟩
          have hRB := hc30.at hRB (fun e => by rcases e with e | e | e <;> first | omega | exact hne _ e.symm rfl)
          have hC := hC.then hc30 (fun k hk e => by rcases e with e | e | e; exact .inl e; exact .inr (.inl e); exact .inr (.inr (own_back hown e hk)))
          have hown := own_next2 hown hown2 (by omega)
          have hne := ne_next hne hown2 (by omega)
          have hgt := Nat.lt_of_lt_of_le hgt hc30.size
          have hB := hB2
          clear hB2 hown2
          refine WL.next ?_
          refine CW.exit ?_
          refine EW.inFar (by decide) ?_
          refine EW.thenExit ?_
          refine EW.inHere ?_
          exact EW.cutK [0, 4] ⟨_, _, _, rfl, hW, hB, hM, hC, hown, body3 (by omega), hgt⟩
        · skip
          refine WL.op (by decide) (R.assign rfl) ?_  -- msg.go:51 t44 := (Op.assign t45)
          refine WL.next ?_
          refine CW.condF rfl ?_
          refine CW.skip ?_
          refine EW.next ?_
          refine CW.seq ?_
          refine CW.rseq ?_  -- region 9
          refine WL.eqlS (by decide) rfl rfl (fun h4 => ?_) (fun h4 => ?_)  -- msg.go:53 t47 := (Op.binOp BinOp.eql 3 t39 c(Value.int IntKind.i64 5) 3)
          · skip
            refine WL.op (by decide) (R.assign rfl) ?_  -- msg.go:53 t46 := (Op.assign t47)
            refine WL.next ?_
            refine CW.condT rfl ?_
            refine CW.exit ?_
            refine EW.thenExit ?_
            refine EW.thenExit ?_
            refine EW.inFar (by decide) ?_
            refine EW.thenExit ?_
            refine EW.inFar (by decide) ?_
            refine EW.thenExit ?_
            refine EW.inFar (by decide) ?_
            refine EW.inHere ?_
            refine EW.inNormal ?_
            refine EW.next ?_
            refine CW.rseq ?_  -- region 13
            refine WL.op (by decide) (R.move rfl) ?_  -- msg.go:56 t70 := (Op.move t0)
            refine WL.op (by decide) (FA57_4 rfl) ?_  -- msg.go:56 t71 := (Op.fieldAddr 57 t3 4)
            refine WL.op (by decide) (R.load Tryd.underlying9 rfl rfl (cell_at hRB (Rec.at19 h16))) ?_  -- msg.go:56 t72 := (Op.load 9 t71)
            refine WL.eff rfl (OP.call (by decide) Tryd.func43 (by kernel_rfl) (by kernel_rfl) rfl (wname_any wb mb base _ (_, _) r.text _ ⟨hW, hB, hM⟩ hwb hmb hwm (by omega) (by first | omega | (show List.length _ ≤ _; simp only [List.length_append, beN_length, List.length_cons, List.length_nil]; omega)) (by omega)) ?_)
            rintro ed w30 ⟨rfl, vw30, ⟨hW, hB2, hM⟩, hc30, hown2⟩
            refine ⟨_, rfl, ?_⟩
            have hRB := hc30.at hRB (fun e => by rcases e with e | e | e <;> first | omega | exact hne _ e.symm rfl)
            have hC := hC.then hc30 (fun k hk e => by rcases e with e | e | e; exact .inl e; exact .inr (.inl e); exact .inr (.inr (own_back hown e hk)))
            have hown := own_next2 hown hown2 (by omega)
            have hne := ne_next hne hown2 (by omega)
            have hgt := Nat.lt_of_lt_of_le hgt hc30.size
            have hB := hB2
            clear hB2 hown2
            refine WL.next ?_
            refine CW.exit ?_
            refine EW.inFar (by decide) ?_
            refine EW.thenExit ?_
            refine EW.inHere ?_
            exact EW.cutK [0, 4] ⟨_, _, _, rfl, hW, hB, hM, hC, hown, body3 (by omega), hgt⟩
          · skip
            refine WL.op (by decide) (R.assign rfl) ?_  -- msg.go:53 t46 := (Op.assign t47)
            refine WL.next ?_
            refine CW.condF rfl ?_
            refine CW.skip ?_
            refine EW.next ?_
            refine CW.rseq ?_  -- region 10
            refine WL.eqlS (by decide) rfl rfl (fun h5 => ?_) (fun h5 => ?_)  -- msg.go:55 t49 := (Op.binOp BinOp.eql 3 t39 c(Value.int IntKind.i64 12) 3)
            · skip
              refine WL.op (by decide) (R.assign rfl) ?_  -- msg.go:55 t48 := (Op.assign t49)
              refine WL.next ?_
              refine CW.condT rfl ?_
              refine CW.exit ?_
              refine EW.thenExit ?_
              refine EW.inFar (by decide) ?_
              refine EW.thenExit ?_
              refine EW.inFar (by decide) ?_
              refine EW.thenExit ?_
              refine EW.inFar (by decide) ?_
              refine EW.inFar (by decide) ?_
              refine EW.inHere ?_
              refine EW.next ?_
              refine CW.rseq ?_  -- region 13
              refine WL.op (by decide) (R.move rfl) ?_  -- msg.go:56 t70 := (Op.move t0)
              refine WL.op (by decide) (FA57_4 rfl) ?_  -- msg.go:56 t71 := (Op.fieldAddr 57 t3 4)
              refine WL.op (by decide) (R.load Tryd.underlying9 rfl rfl (cell_at hRB (Rec.at19 h16))) ?_  -- msg.go:56 t72 := (Op.load 9 t71)
              refine WL.eff rfl (OP.call (by decide) Tryd.func43 (by kernel_rfl) (by kernel_rfl) rfl (wname_any wb mb base _ (_, _) r.text _ ⟨hW, hB, hM⟩ hwb hmb hwm (by omega) (by first | omega | (show List.length _ ≤ _; simp only [List.length_append, beN_length, List.length_cons, List.length_nil]; omega)) (by omega)) ?_)
              rintro ed w30 ⟨rfl, vw30, ⟨hW, hB2, hM⟩, hc30, hown2⟩
              refine ⟨_, rfl, ?_⟩
              have hRB := hc30.at hRB (fun e => by rcases e with e | e | e <;> first | omega | exact hne _ e.symm rfl)
              have hC := hC.then hc30 (fun k hk e => by rcases e with e | e | e; exact .inl e; exact .inr (.inl e); exact .inr (.inr (own_back hown e hk)))
              have hown := own_next2 hown hown2 (by omega)
              have hne := ne_next hne hown2 (by omega)
              have hgt := Nat.lt_of_lt_of_le hgt hc30.size
              have hB := hB2
              clear hB2 hown2
              refine WL.next ?_
              refine CW.exit ?_
              refine EW.inFar (by decide) ?_
              refine EW.thenExit ?_
              refine EW.inHere ?_
              exact EW.cutK [0, 4] ⟨_, _, _, rfl, hW, hB, hM, hC, hown, body3 (by omega), hgt⟩
            · skip
              refine WL.op (by decide) (R.assign rfl) ?_  -- msg.go:55 t48 := (Op.assign t49)
              refine WL.next ?_
              refine CW.condF rfl ?_
              refine CW.skip ?_
              refine EW.next ?_
              refine CW.exit ?_
              refine EW.inFar (by decide) ?_
              refine EW.thenExit ?_
              refine EW.inFar (by decide) ?_
              refine EW.thenExit ?_
              refine EW.inFar (by decide) ?_
              refine EW.inFar (by decide) ?_
              refine EW.inFar (by decide) ?_
              refine EW.thenExit ?_
              refine EW.inHere ?_
              refine EW.next ?_
              refine CW.seq ?_
              refine CW.draw (fun w0 => w0.heap[w.heap.size]? = some (.cells r.cells.toArray 57 (0, 0))) (by kernel_rfl) ?_
              have hC := hC.trans (Chg.drew _ _)
              have hM := hM.kept (Chg.drew (fun _ => False) _) (fun h => h)
              have hB := hB.kept (Chg.drew (fun _ => False) _) (fun _ _ h => h)
              have hgt := Nat.lt_of_lt_of_le hgt (Chg.drew (fun _ => False) _).size
              refine AH.take 0 rfl (by kernel_rfl) (by kernel_rfl) (by kernel_rfl) (fun _ _ _ _ h => h) hRB (by decide) (fun w hS => R.move rfl) ?_  -- msg.go:58 t74 := (Op.move t0)
              refine AH.take 1 rfl (by kernel_rfl) (by kernel_rfl) (by kernel_rfl) (fun _ _ _ _ h => h) hRB (by decide) (fun w hS => R.move rfl) ?_  -- msg.go:58 t75 := (Op.move t0)
              refine AH.take 2 rfl (by kernel_rfl) (by kernel_rfl) (by kernel_rfl) (fun _ _ _ _ h => h) hRB (by decide) (fun w hS => R.nilCheck rfl) ?_  -- msg.go:58 t76 := (Op.nilCheck t75)
              refine AH.take 3 rfl (by kernel_rfl) (by kernel_rfl) (by kernel_rfl) (fun _ _ _ _ h => h) hRB (by decide) (fun w hS => FA93_0 rfl) ?_  -- msg.go:58 t77 := (Op.fieldAddr 93 t76 0)
              refine AH.take 5 rfl (by kernel_rfl) (by kernel_rfl) (by kernel_rfl) (fun _ _ _ _ h => h) hRB (by decide) (fun w hS => FA57_5 rfl) ?_  -- msg.go:58 t79 := (Op.fieldAddr 57 t3 5)
              refine AH.take 6 rfl (by kernel_rfl) (by kernel_rfl) (by kernel_rfl) (fun _ _ _ _ h => h) hRB (by decide) (fun w hS => R.load Tryd.underlying9 rfl rfl (cell_at hS (Rec.at20 h16))) ?_  -- msg.go:58 t80 := (Op.load 9 t79)
              refine AH.eff 4 (by kernel_rfl) rfl rfl (OP.val (by decide) (R.load Tryd.underlying36 rfl rfl (cell_at hW rfl)) ?_)
              refine ⟨hRB, ?_⟩
              refine AH.eff 7 (by kernel_rfl) rfl rfl (OP.appendStr (by decide) rfl rfl hB (by first | omega | (simp only [List.length_append, wrHead_length, beN_length, List.length_cons, List.length_nil, List.length_drop, List.length_set, h16]; omega)) (by omega) ?_)
              intro vw30 w30 hB2 hMv
              refine ⟨(Chg.moved hMv).at hRB (fun e => hne _ e.symm rfl), ?_⟩
              have hcm := Chg.moved hMv
              have hW := hcm.at hW (fun e => by have := hB.lt _ e.symm; omega)
              have hM := hM.kept hcm (fun e => by have := hB.lt _ e.symm; omega)
              have hRB := hcm.at hRB (fun e => hne _ e.symm rfl)
              have hC := hC.then hcm (fun k hk e => .inr (.inr (own_back hown e hk)))
              have hown := own_next hown hMv (by omega)
              have hne := ne_next hne hMv.at_ (by omega)
              have hgt := Nat.lt_of_lt_of_le hgt hcm.size
              have hB := hB2
              clear hB2 hMv
              refine AH.eff 8 (by kernel_rfl) rfl rfl (OP.val (by decide) (R.nilCheck rfl) ?_)
              refine ⟨hRB, ?_⟩
              refine AH.eff 9 (by kernel_rfl) rfl rfl (OP.val (by decide) (FA93_0 rfl) ?_)
              refine ⟨hRB, ?_⟩
              refine AH.eff 10 (by kernel_rfl) rfl rfl (OP.store1 sz36 rfl rfl hB.one.1 hB.one.2 hW (Nat.le_of_ble_eq_true rfl) rfl ?_)
              intro w31 hc31 _ hW
              have hM := hM.kept hc31 (fun e => by omega)
              have hB := hB.kept hc31 (fun k hk e => by have := hB.lt k hk; omega)
              have hRB := hc31.at hRB (by omega)
              have hC := hC.then hc31 (fun k hk e => .inl e)
              have hgt := Nat.lt_of_lt_of_le hgt hc31.size
              refine ⟨hRB, ?_⟩
              refine AH.done (by kernel_rfl) ?_
              refine EW.next ?_
              refine CW.exit ?_
              refine EW.inHere ?_
              exact EW.cutK [0, 4] ⟨_, _, _, rfl, hW, hB, hM, hC, hown, body4 (by omega) (by omega) (by omega), hgt⟩
  · rintro l wr ⟨v, b3, at3, rfl, hW, hB, hM, hC, hown, hbody, hgt⟩
    have hbl := wrBody_length r (wrHead r (wrName r.name st).1 ++ [0, 0]) (wrName r.name st).2 h16
    rw [hbody] at hbl
    simp only [List.length_append, List.length_cons, List.length_nil] at hbl
    refine CW.rseq ?_  -- region 15
    refine WL.op (by decide) (R.move rfl) ?_  -- msg.go:60 t84 := (Op.move t0)
    refine WL.op (by decide) (R.nilCheck rfl) ?_  -- msg.go:60 t85 := (Op.nilCheck t84)
    refine WL.op (by decide) (FA93_0 rfl) ?_  -- msg.go:60 t86 := (Op.fieldAddr 93 t85 0)
    obtain ⟨ab, cb, rfl⟩ := hB.slice
    refine WL.op (by decide) (R.load Tryd.underlying36 rfl rfl (cell_at hW rfl)) ?_
    refine WL.op (by decide) (R.lenSlice rfl Tryd.underlying36 rfl) ?_  -- msg.go:60 t88 := (Op.call (Call.mk (Callee.builtin Builtin.len) [t87] [36]))
    refine WL.op (by decide) (R.move rfl) ?_  -- msg.go:60 t89 := (Op.move t4)
    refine WL.op (by decide) (R.sub rfl rfl (by omega)) ?_  -- msg.go:60 t90 := (Op.binOp BinOp.sub 3 t88 t89 3)
    refine WL.op (by decide) (R.sub rfl rfl (by omega)) ?_  -- msg.go:60 t91 := (Op.binOp BinOp.sub 3 t90 c(Value.int IntKind.i64 2) 3)
    refine WL.op (by decide) (R.assign rfl) ?_  -- msg.go:60 t5 := (Op.assign t91)
    refine WL.next ?_
    refine CW.draw (fun w => w.heap[wb]? = some (.cells #[.slice ab b3.length cb, .map (some mb)] 93 (0, 0))) (by kernel_rfl) ?_
    have hC := hC.trans (Chg.drew _ _)
    have hM := hM.kept (Chg.drew (fun _ => False) _) (fun h => h)
    have hB := hB.kept (Chg.drew (fun _ => False) _) (fun _ _ h => h)
    obtain ⟨gb, rfl, hgb⟩ := hB.addr (by intro h; rw [h] at hbl; simp at hbl)
    refine AH.take 0 rfl (by kernel_rfl) (by kernel_rfl) (by kernel_rfl) (fun _ _ _ _ h => h) hW (by decide) (fun w hS => R.move rfl) ?_  -- msg.go:61 t92 := (Op.move t0)
    refine AH.take 1 rfl (by kernel_rfl) (by kernel_rfl) (by kernel_rfl) (fun _ _ _ _ h => h) hW (by decide) (fun w hS => R.nilCheck rfl) ?_  -- msg.go:61 t93 := (Op.nilCheck t92)
    refine AH.take 2 rfl (by kernel_rfl) (by kernel_rfl) (by kernel_rfl) (fun _ _ _ _ h => h) hW (by decide) (fun w hS => FA93_0 rfl) ?_  -- msg.go:61 t94 := (Op.fieldAddr 93 t93 0)
    refine AH.take 3 rfl (by kernel_rfl) (by kernel_rfl) (by kernel_rfl) (fun _ _ _ _ h => h) hW (by decide) (fun w hS => R.load Tryd.underlying36 rfl rfl (cell_at hS rfl)) ?_  -- msg.go:61 t95 := (Op.load 36 t94)
    refine AH.take 4 rfl (by kernel_rfl) (by kernel_rfl) (by kernel_rfl) (fun _ _ _ _ h => h) hW (by decide) (fun w hS => R.move rfl) ?_  -- msg.go:61 t96 := (Op.move t4)
    refine AH.take 5 rfl (by kernel_rfl) (by kernel_rfl) (by kernel_rfl) (fun _ _ _ _ h => h) hW (by decide) (fun w hS => R.move rfl) ?_  -- msg.go:61 t97 := (Op.move t0)
    refine AH.take 6 rfl (by kernel_rfl) (by kernel_rfl) (by kernel_rfl) (fun _ _ _ _ h => h) hW (by decide) (fun w hS => R.nilCheck rfl) ?_  -- msg.go:61 t98 := (Op.nilCheck t97)
    refine AH.take 7 rfl (by kernel_rfl) (by kernel_rfl) (by kernel_rfl) (fun _ _ _ _ h => h) hW (by decide) (fun w hS => FA93_0 rfl) ?_  -- msg.go:61 t99 := (Op.fieldAddr 93 t98 0)
    refine AH.take 8 rfl (by kernel_rfl) (by kernel_rfl) (by kernel_rfl) (fun _ _ _ _ h => h) hW (by decide) (fun w hS => R.load Tryd.underlying36 rfl rfl (cell_at hS rfl)) ?_  -- msg.go:61 t100 := (Op.load 36 t99)
    refine AH.take 9 rfl (by kernel_rfl) (by kernel_rfl) (by kernel_rfl) (fun _ _ _ _ h => h) hW (by decide) (fun w hS => R.move rfl) ?_  -- msg.go:61 t101 := (Op.move t4)
    refine AH.take 10 rfl (by kernel_rfl) (by kernel_rfl) (by kernel_rfl) (fun _ _ _ _ h => h) hW (by decide) (fun w hS => R.add rfl rfl (by omega)) ?_  -- msg.go:61 t102 := (Op.binOp BinOp.add 3 t101 c(Value.int IntKind.i64 1) 3)
    refine AH.take 11 rfl (by kernel_rfl) (by kernel_rfl) (by kernel_rfl) (fun _ _ _ _ h => h) hW (by decide) (fun w hS => R.move rfl) ?_  -- msg.go:61 t103 := (Op.move t5)
    refine AH.take 12 rfl (by kernel_rfl) (by kernel_rfl) (by kernel_rfl) (fun _ _ _ _ h => h) hW (by decide) (fun w hS => R.shr rfl rfl (by omega)) ?_  -- msg.go:61 t104 := (Op.binOp BinOp.shr 3 t103 c(Value.int IntKind.u64 8) 42)
    refine AH.take 13 rfl (by kernel_rfl) (by kernel_rfl) (by kernel_rfl) (fun _ _ _ _ h => h) hW (by decide) (fun w hS => R.conv35 rfl) ?_  -- msg.go:61 t105 := (Op.convert 3 5 t104)
    refine AH.take 14 rfl (by kernel_rfl) (by kernel_rfl) (by kernel_rfl) (fun _ _ _ _ h => h) hW (by decide) (fun w hS => R.move rfl) ?_  -- msg.go:61 t106 := (Op.move t5)
    refine AH.take 15 rfl (by kernel_rfl) (by kernel_rfl) (by kernel_rfl) (fun _ _ _ _ h => h) hW (by decide) (fun w hS => R.conv35 rfl) ?_  -- msg.go:61 t107 := (Op.convert 3 5 t106)
    refine AH.eff 16 (by kernel_rfl) rfl rfl (OP.val (by decide) (R.indexAddr1 (i := (wrHead r (wrName r.name st).1).length) Tryd.underlying36 sz5 rfl rfl rfl (by omega)) ?_)
    refine ⟨hW, ?_⟩
    refine AH.eff 17 (by kernel_rfl) rfl rfl (OP.setB hB rfl rfl rfl (by omega) ?_)
    intro w40 hc40 hs40 hB
    have hW := hc40.at hW (by omega)
    refine ⟨hW, ?_⟩
    have hM := hM.kept hc40 (by omega)
    have hC := hC.then hc40 (fun k hk e => .inr (.inr (own_back hown (by subst e; rfl) hk)))
    refine AH.eff 18 (by kernel_rfl) rfl rfl (OP.val (by decide) (R.indexAddr1 (i := (wrHead r (wrName r.name st).1).length + 1) Tryd.underlying36 sz5 rfl rfl rfl (by omega)) ?_)
    refine ⟨hW, ?_⟩
    refine AH.eff 19 (by kernel_rfl) rfl rfl (OP.setB hB rfl rfl rfl (by first | omega | (simp only [List.length_append, wrHead_length, beN_length, List.length_cons, List.length_nil, List.length_drop, List.length_set, h16]; omega)) ?_)
    intro w41 hc41 hs41 hB
    have hW := hc41.at hW (by omega)
    refine ⟨hW, ?_⟩
    have hM := hM.kept hc41 (by omega)
    have hC := hC.then hc41 (fun k hk e => .inr (.inr (own_back hown (by subst e; rfl) hk)))
    refine AH.done (by kernel_rfl) ?_
    exact EW.ret0 (.inr rfl) rfl ⟨rfl, _, ⟨hW, by rw [wrRec, hbody]; exact hB, by rw [wrRec, hbody]; exact hM⟩, hC, hown⟩
end Go.Proofs.YthcpjcgjmdfpjaaDoor
