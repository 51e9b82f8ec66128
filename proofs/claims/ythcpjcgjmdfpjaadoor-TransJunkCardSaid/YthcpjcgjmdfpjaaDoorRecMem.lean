/- Records in memory: alone, in slices; appending one; messages. -/
import Derived.Test.YthcpjcgjmdfpjaaDoorMRight
namespace Go.Proofs.YthcpjcgjmdfpjaaDoor
open Go Go.RowKit
set_option maxRecDepth 100000

theorem list16 {α : Type} {l : List α} (h : l.length = 16) : ∃ a0 a1 a2 a3 a4 a5 a6 a7 a8 a9 b0 b1 b2 b3 b4 b5, l = [a0, a1, a2, a3, a4, a5, a6, a7, a8, a9, b0, b1, b2, b3, b4, b5] := by
  match l, h with
  | [a0, a1, a2, a3, a4, a5, a6, a7, a8, a9, b0, b1, b2, b3, b4, b5], _ => exact ⟨a0, a1, a2, a3, a4, a5, a6, a7, a8, a9, b0, b1, b2, b3, b4, b5, rfl⟩

theorem Rec.one (r : Rec) : ∀ u ∈ r.cells, u.oneCell' = true := by
  intro u hu
  simp only [Rec.cells, List.mem_cons, List.mem_append, List.mem_map, List.not_mem_nil, or_false] at hu
  rcases hu with rfl | rfl | rfl | ⟨c, _, rfl⟩ | rfl | rfl <;> rfl
theorem Rec.allOne (r : Rec) : r.cells.toArray.all (·.oneCell') = true := by
  rw [Array.all_eq_true_iff_forall_mem]
  intro u hu
  exact r.one u (by simpa using hu)
theorem Rec.cells_of_val (r : Rec) : r.val.cells = r.cells.toArray := rfl

theorem Rec.set2 (r : Rec) (x : Int) : r.cells.toArray.setIfInBounds 2 (.int .i64 x) = ({ r with ttl := x } : Rec).cells.toArray := by
  simp [Rec.cells]
theorem Rec.set19 {r : Rec} (h : r.addr.length = 16) (x : List UInt8) : r.cells.toArray.setIfInBounds 19 (sv x) = ({ r with text := x } : Rec).cells.toArray := by
  obtain ⟨n, t, l, a, x0, d⟩ := r
  obtain ⟨a0, a1, a2, a3, a4, a5, a6, a7, a8, a9, b0, b1, b2, b3, b4, b5, rfl⟩ := list16 h
  rfl
theorem Rec.set20 {r : Rec} (h : r.addr.length = 16) (x : List UInt8) : r.cells.toArray.setIfInBounds 20 (sv x) = ({ r with data := x } : Rec).cells.toArray := by
  obtain ⟨n, t, l, a, x0, d⟩ := r
  obtain ⟨a0, a1, a2, a3, a4, a5, a6, a7, a8, a9, b0, b1, b2, b3, b4, b5, rfl⟩ := list16 h
  rfl
theorem Rec.setAddr {r : Rec} (h : r.addr.length = 16) {a : List UInt8} (ha : a.length = 16) : (r.cells.toArray.toList.take 3 ++ a.map u8v ++ r.cells.toArray.toList.drop (3 + 16)).toArray = ({ r with addr := a } : Rec).cells.toArray := by
  obtain ⟨n, t, l, a', x0, d⟩ := r
  obtain ⟨a0, a1, a2, a3, a4, a5, a6, a7, a8, a9, b0, b1, b2, b3, b4, b5, rfl⟩ := list16 h
  obtain ⟨c0, c1, c2, c3, c4, c5, c6, c7, c8, c9, d0, d1, d2, d3, d4, d5, rfl⟩ := list16 ha
  rfl

/-- Records side by side. -/
def flatR (rs : List Rec) : List Value := rs.flatMap Rec.cells
def OkA (rs : List Rec) : Prop := ∀ r ∈ rs, r.addr.length = 16
theorem OkA.nil : OkA [] := fun _ h => by cases h
theorem OkA.snoc {rs : List Rec} {r : Rec} (h : OkA rs) (hr : r.addr.length = 16) : OkA (rs ++ [r]) := by
  intro x hx
  rcases List.mem_append.1 hx with h1 | h1
  · exact h x h1
  · rw [List.mem_singleton.1 h1]; exact hr
theorem OkA.at {rs : List Rec} (h : OkA rs) {j : Nat} {r : Rec} (hj : rs[j]? = some r) : r.addr.length = 16 := h r (List.mem_of_getElem? hj)
theorem flatR_snoc (rs : List Rec) (r : Rec) : flatR (rs ++ [r]) = flatR rs ++ r.cells := by simp [flatR]
theorem flatR_length {rs : List Rec} (h : OkA rs) : (flatR rs).length = rs.length * 21 := by
  induction rs with
  | nil => rfl
  | cons r rs ih =>
    have h1 := Rec.length (h r (by simp))
    have h2 := ih (fun x hx => h x (by simp [hx]))
    simp only [flatR, List.flatMap_cons, List.length_append, List.length_cons] at h2 ⊢
    rw [h1, h2]; omega
theorem flatR_at {rs : List Rec} (h : OkA rs) {j i : Nat} {r : Rec} {u : Value} (hj : rs[j]? = some r) (hi : r.cells[i]? = some u) : (flatR rs)[j * 21 + i]? = some u := by
  induction rs generalizing j with
  | nil => simp at hj
  | cons q rs ih =>
    have hq := Rec.length (h q (by simp))
    cases j with
    | zero =>
      simp at hj; subst hj
      rw [Nat.zero_mul, Nat.zero_add]
      simp only [flatR, List.flatMap_cons]
      rw [List.getElem?_append_left (List.getElem?_eq_some_iff.1 hi).1]; exact hi
    | succ j =>
      have := ih (fun x hx => h x (by simp [hx])) (j := j) (by simpa using hj)
      simp only [flatR, List.flatMap_cons] at this ⊢
      rw [List.getElem?_append_right (by omega), hq, show (j + 1) * 21 + i - 21 = j * 21 + i by omega]
      exact this
theorem flatR_one (rs : List Rec) : ∀ u ∈ flatR rs, u.oneCell' = true := by
  intro u hu
  obtain ⟨r, _, h2⟩ := List.mem_flatMap.1 hu
  exact r.one u h2

/-- A slice of records that one may read. -/
def RSl (w : World) (v : Value) (rs : List Rec) : Prop :=
  OkA rs ∧ ∃ A c, v = .slice A rs.length c ∧ rs.length ≤ c ∧ (rs ≠ [] → ∃ g o, A = some ⟨g, o, none⟩ ∧ ∀ j u, (flatR rs)[j]? = some u → w.cell? ⟨g, o + j, none⟩ = some u)
/-- One that is owned: appends may go on in it. -/
def RBuf (w : World) (base : Nat) (v : Value) (rs : List Rec) : Prop := OkA rs ∧ w.ownsRow base 57 21 v rs.length (flatR rs)

theorem RSl.nil (w : World) : RSl w (.slice none 0 0) [] := ⟨OkA.nil, none, 0, rfl, Nat.le_refl _, fun h => absurd rfl h⟩
theorem RBuf.nil (w : World) (base : Nat) : RBuf w base (.slice none 0 0) [] := ⟨OkA.nil, World.ownsRow_nil _ _ _ _⟩
theorem RSl.kept {w w' : World} {S : Nat → Prop} {v : Value} {rs : List Rec} (h : RSl w v rs) (hc : Chg S w w') (hn : ∀ k, v.ownBlock = some k → ¬ S k) : RSl w' v rs := by
  obtain ⟨hk, A, c, rfl, hl, hm⟩ := h
  refine ⟨hk, A, c, rfl, hl, fun h0 => ?_⟩
  obtain ⟨g, o, rfl, hcell⟩ := hm h0
  exact ⟨g, o, rfl, fun j u hj => cell_chg hc (hcell j u hj) (hn g rfl)⟩
theorem RBuf.kept {w w' : World} {base : Nat} {v : Value} {rs : List Rec} {S : Nat → Prop} (h : RBuf w base v rs) (hc : Chg S w w') (hn : ∀ k, v.ownBlock = some k → ¬ S k) : RBuf w' base v rs := by
  refine ⟨h.1, h.2.1, ?_⟩
  rcases h.2.2 with h2 | ⟨g, cap, cur, rfl, hb, hg, r⟩
  · exact .inl h2
  · exact .inr ⟨g, cap, cur, rfl, hb, hc.at hg (hn g rfl), r⟩
theorem RBuf.lt {w : World} {base : Nat} {v : Value} {rs : List Rec} (h : RBuf w base v rs) : ∀ k, v.ownBlock = some k → base ≤ k ∧ k < w.heap.size := World.ownsRow.lt h.2
theorem RBuf.sl {w : World} {base : Nat} {v : Value} {rs : List Rec} (h : RBuf w base v rs) : RSl w v rs := by
  refine ⟨h.1, ?_⟩
  have hcells := h.2
  rcases h.2.2 with ⟨rfl, h0⟩ | ⟨g, cap, cur, rfl, hb, hg, hle, r⟩
  · have := List.eq_nil_of_length_eq_zero h0
    subst this
    exact ⟨none, 0, rfl, Nat.le_refl _, fun h => absurd rfl h⟩
  · refine ⟨some ⟨g, 0, none⟩, cap, rfl, hle, fun _ => ⟨g, 0, rfl, fun j u hj => ?_⟩⟩
    have := World.ownsRow.cells hcells (g := g) rfl j u hj
    rwa [Addr.add_none] at this
theorem RSl.form {w : World} {v : Value} {rs : List Rec} (h : RSl w v rs) : ∃ A c, v = .slice A rs.length c ∧ rs.length ≤ c := by
  obtain ⟨_, A, c, h1, h2, _⟩ := h; exact ⟨A, c, h1, h2⟩
/-- Reading one. -/
theorem RSl.at {w : World} {A : Option Addr} {m c : Nat} {rs : List Rec} (h : RSl w (.slice A m c) rs) {j : Nat} {r : Rec} (hj : rs[j]? = some r) : r.addr.length = 16 ∧ m = rs.length ∧ ∃ g o, A = some ⟨g, o, none⟩ ∧ ∀ i u, r.cells[i]? = some u → w.cell? ⟨g, o + j * 21 + i, none⟩ = some u := by
  obtain ⟨hk, A', c', he, hl, hm⟩ := h
  injection he with e1 e2 e3
  subst e1 e2 e3
  obtain ⟨g, o, rfl, hcell⟩ := hm (by intro h0; subst h0; simp at hj)
  refine ⟨hk.at hj, rfl, g, o, rfl, fun i u hi => ?_⟩
  rw [Nat.add_assoc]
  exact hcell _ u (flatR_at hk hj hi)

theorem buildSlice_rec {r : Rec} (h : r.addr.length = 16) (w : World) : (Instr.buildSlice 31 1 #[(0, r.val)]).run Tryd.prog w = .ok (.slice (some ⟨w.heap.size, 0, none⟩) 1 1) (w.alloc (.cells r.cells.toArray 57)) := by
  obtain ⟨n, t, l, a, x0, d⟩ := r
  obtain ⟨a0, a1, a2, a3, a4, a5, a6, a7, a8, a9, b0, b1, b2, b3, b4, b5, rfl⟩ := list16 h
  kernel_rfl
section
variable {Q : Exit → Act → World → Prop} {n : Nat} {l : Env} {w : World} {M : Env → World → Prop} {t : TypeId} {pos : String} {af : Array Edge} {d : Nat} {x y : Operand} {base : Nat} {v : Value} {rs : List Rec} {r : Rec}
theorem OP.buildSliceR (hdn : d < n) (hx : ev l x = some r.val) (hr : r.addr.length = 16)
    (h : ∀ w', Chg (fun _ => False) w w' → w'.heap.size = w.heap.size + 1 → w'.heap[w.heap.size]? = some (.cells r.cells.toArray 57 (0, 0)) → M ((d, .slice (some ⟨w.heap.size, 0, none⟩) 1 1) :: l) w') :
    OP Tryd.prog Q ⟨some d, .buildSlice 31 1 #[(0, x)], t, pos, af, none⟩ n l w M :=
  OP.buildSlice (parts := [(0, x)]) (vals := [(0, r.val)]) hdn (by simp [evp, hx]) (buildSlice_rec hr) h
theorem zero57 : (Tryd.prog.info? 57).map (fun i => (i.zero, i.size, i.bytes)) = some (some (Rec.val ⟨[], 0, 0, zero16, [], []⟩), 21, 80) := by kernel_rfl
theorem OP.appendR {g c : Nat} (hdn : d < n) (hx : ev l x = some v) (hy : ev l y = some (.slice (some ⟨g, 0, none⟩) 1 c)) (hB : RBuf w base v rs) (hr16 : r.addr.length = 16) (hg : w.heap[g]? = some (.cells r.cells.toArray 57 (0, 0)))
    (hl : (rs.length + 1) * 80 ≤ 140737488355328) (hb : base ≤ w.heap.size)
    (h : ∀ v' w', RBuf w' base v' (rs ++ [r]) → Moved w w' v v' → M ((d, v') :: l) w') :
    OP Tryd.prog Q ⟨some d, .call { callee := .builtin .append, args := #[x, y], argTypes := #[31, 31] }, t, pos, af, none⟩ n l w M := by
  obtain ⟨i0, hi, hz0, hz1, hz2⟩ := info_parts zero57
  have hnews : ∀ j u, r.cells[j]? = some u → w.cell? ((⟨g, 0, none⟩ : Addr).add j) = some u := by
    intro j u hj
    rw [Addr.add_none, Nat.zero_add]
    exact cell_at hg (by rw [List.getElem?_toArray]; exact hj)
  obtain ⟨v', w', hr, h2, h3, _, h5⟩ := run_append_own_at (P := Tryd.prog) w base 31 t 57 i0 _ 21 80 Tryd.underlying31 hi hz0 hz1 hz2 rfl (by decide) v rs.length (flatR rs) hB.2 ⟨g, 0, none⟩ 1 c r.cells (by rw [Rec.length hr16]) hnews r.one (by unfold maxLen; omega) (by omega) hb
  refine OP.val (v := v') (w' := w') hdn (fun r _ _ _ _ _ he => ?_) (h v' w' ?_ ⟨h3, h5.imp id (fun e => ⟨_, e, Nat.le_refl _⟩)⟩)
  · simp only [execOp, resolve, invoke, builtin, Sem.run_bind, Sem.run_pure, Result.andThen_ok, List.map_toArray, List.map_cons, List.map_nil, he x _ hx, he y _ hy]
    have e1 : ∀ ty, (Builtin.append_ #[31, 31] ty #[v, .slice (some ⟨g, 0, none⟩) 1 c]).run Tryd.prog w = (Builtin.append_ #[31, 31] t #[v, .slice (some ⟨g, 0, none⟩) 1 c]).run Tryd.prog w := fun _ => rfl
    rw [e1, hr]; rfl
  · refine ⟨hB.1.snoc hr16, ?_⟩
    rw [List.length_append, flatR_snoc]; exact h2
theorem OP.allocR (hdn : d < n) (h : ∀ w', Chg (fun _ => False) w w' → w'.heap.size = w.heap.size + 1 → w'.heap[w.heap.size]? = some (.cells (Rec.cells ⟨[], 0, 0, zero16, [], []⟩).toArray 57 (0, 0)) → M ((d, .pointer (some ⟨w.heap.size, 0, none⟩)) :: l) w') :
    OP Tryd.prog Q ⟨some d, .alloc 57, t, pos, af, none⟩ n l w M :=
  OP.alloc1 (Rec.val ⟨[], 0, 0, zero16, [], []⟩) hdn (by kernel_rfl) h
/-- A whole record stored over another. -/
theorem OP.storeR {b : Nat} {r0 : Rec} {ty : TypeId} (hx : ev l x = some (.pointer (some ⟨b, 0, none⟩))) (hy : ev l y = some r.val) (hr : r.addr.length = 16) (h0 : r0.addr.length = 16) (hb : w.heap[b]? = some (.cells r0.cells.toArray 57 (0, 0)))
    (h : ∀ w', Chg (fun k => k = b) w w' → w'.heap.size = w.heap.size → w'.heap[b]? = some (.cells r.cells.toArray 57 (0, 0)) → M l w') :
    OP Tryd.prog Q ⟨none, .store 57 x y, ty, pos, af, none⟩ n l w M := by
  obtain ⟨i, hi, hz⟩ := inf_of sz57
  exact OP.storeAgg hi (by rw [hz, List.size_toArray, Rec.length hr]) hx hy r.allOne hb (by rw [List.size_toArray, List.size_toArray, Rec.length hr, Rec.length h0]) h
/-- Loading a record. -/
theorem R.loadR {b o : Nat} (hr : r.addr.length = 16) (hx : ev l x = some (.pointer (some ⟨b, o, none⟩))) (hc : ∀ j u, r.cells[j]? = some u → w.cell? ⟨b, o + j, none⟩ = some u) : Runs Tryd.prog l (.load 57 x) w r.val w :=
  R.loadAgg1 (cs := r.cells) Tryd.underlying57 rfl (by rw [Rec.length hr]; exact sz57) hx hc
theorem R.loadRB {b : Nat} {fr : Nat × Nat} (hr : r.addr.length = 16) (hx : ev l x = some (.pointer (some ⟨b, 0, none⟩))) (hb : w.heap[b]? = some (.cells r.cells.toArray 57 fr)) : Runs Tryd.prog l (.load 57 x) w r.val w :=
  R.loadR hr hx (fun j u hj => cell_at hb (by rw [Nat.zero_add, List.getElem?_toArray]; exact hj))
end

/-- A message. -/
structure Msg where
  id : Int
  reply : Bool
  trunc : Bool
  recur : Bool
  code : Int
  qname : List UInt8
  qtype : Int
  ans : List Rec
  auth : List Rec
def Msg.cells (m : Msg) (va vb : Value) : List Value := [.int .i64 m.id, .bool m.reply, .bool m.trunc, .bool m.recur, .int .i64 m.code, sv m.qname, .int .i64 m.qtype, va, vb]
/-- A message in memory. -/
def MV (w : World) (v : Value) (m : Msg) : Prop := ∃ va vb, v = .agg (m.cells va vb).toArray ∧ RSl w va m.ans ∧ RSl w vb m.auth
theorem MV.kept {w w' : World} {S : Nat → Prop} {v : Value} {m : Msg} (h : MV w v m) (hc : Chg S w w') (hn : ∀ k, k < w.heap.size → ¬ S k) : MV w' v m := by
  obtain ⟨va, vb, rfl, h1, h2⟩ := h
  have key : ∀ {u : Value} {rs : List Rec}, RSl w u rs → RSl w' u rs := by
    intro u rs ⟨hk, A, c, e, hl, hm⟩
    refine ⟨hk, A, c, e, hl, fun h0 => ?_⟩
    obtain ⟨g, o, rfl, hcell⟩ := hm h0
    exact ⟨g, o, rfl, fun j u hj => cell_chg hc (hcell j u hj) (hn g (World.block_lt_of_cell? w _ (hcell j u hj)))⟩
  exact ⟨va, vb, rfl, key h1, key h2⟩
/-- A message in memory that is new: its lists lie in blocks from 'base' on. -/
def MVF (base : Nat) (w : World) (v : Value) (m : Msg) : Prop := ∃ va vb, v = .agg (m.cells va vb).toArray ∧ RSl w va m.ans ∧ RSl w vb m.auth ∧ (∀ k, va.ownBlock = some k → base ≤ k) ∧ (∀ k, vb.ownBlock = some k → base ≤ k)
theorem MVF.mv {base : Nat} {w : World} {v : Value} {m : Msg} (h : MVF base w v m) : MV w v m := by
  obtain ⟨va, vb, h1, h2, h3, _⟩ := h; exact ⟨va, vb, h1, h2, h3⟩
theorem MVF.kept {base : Nat} {w w' : World} {S : Nat → Prop} {v : Value} {m : Msg} (h : MVF base w v m) (hc : Chg S w w') (hn : ∀ k, base ≤ k → ¬ S k) : MVF base w' v m := by
  obtain ⟨va, vb, h1, h2, h3, h4, h5⟩ := h
  exact ⟨va, vb, h1, h2.kept hc (fun k hk => hn k (h4 k hk)), h3.kept hc (fun k hk => hn k (h5 k hk)), h4, h5⟩
theorem MVF.mono {base b2 : Nat} {w : World} {v : Value} {m : Msg} (h : MVF base w v m) (hb : b2 ≤ base) : MVF b2 w v m := by
  obtain ⟨va, vb, h1, h2, h3, h4, h5⟩ := h
  exact ⟨va, vb, h1, h2, h3, fun k hk => Nat.le_trans hb (h4 k hk), fun k hk => Nat.le_trans hb (h5 k hk)⟩
/-- May it be a message? -/
def allM (m : Msg) : Bool := decide (0 ≤ m.id) && decide (m.id ≤ 65535) && decide (0 ≤ m.code) && decide (m.code ≤ 15) && namesL m.qname && decide (1 ≤ m.qtype) && decide (m.qtype ≤ 65535) && decide (m.ans.length + m.auth.length ≤ 32) && m.ans.all rightR && m.auth.all rightR
end Go.Proofs.YthcpjcgjmdfpjaaDoor
