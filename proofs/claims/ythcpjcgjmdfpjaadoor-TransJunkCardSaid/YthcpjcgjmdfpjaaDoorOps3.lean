/- Appends to a buffer of bytes, slices, indexes, conversions: at this program. -/
import Derived.Test.YthcpjcgjmdfpjaaDoorOps2
import Derived.Laws.BytesArg
namespace Go.Proofs.YthcpjcgjmdfpjaaDoor
open Go Go.RowKit

theorem Buf.lt {w : World} {base : Nat} {v : Value} {bs : List UInt8} (h : Buf w base v bs) : ∀ k, v.ownBlock = some k → base ≤ k ∧ k < w.heap.size := World.ownsRow.lt h

/-- A buffer behind a step that does not touch its block. -/
theorem Buf.kept {w w' : World} {base : Nat} {v : Value} {bs : List UInt8} {S : Nat → Prop} (h : Buf w base v bs) (hc : Chg S w w') (hn : ∀ k, v.ownBlock = some k → ¬ S k) : Buf w' base v bs := by
  refine ⟨h.1, ?_⟩
  rcases h.2 with h2 | ⟨g, cap, cur, rfl, hb, hg, r⟩
  · exact .inl h2
  · exact .inr ⟨g, cap, cur, rfl, hb, hc.at hg (hn g rfl), r⟩

theorem Buf.slice {w : World} {base : Nat} {v : Value} {bs : List UInt8} (h : Buf w base v bs) : ∃ a c, v = .slice a bs.length c := by
  rcases h.2 with ⟨rfl, h0⟩ | ⟨g, cap, cur, rfl, _⟩
  · exact ⟨none, 0, by rw [h0]⟩
  · exact ⟨_, cap, rfl⟩
theorem Buf.cell {w : World} {base : Nat} {bs : List UInt8} {g m c : Nat} (h : Buf w base (.slice (some ⟨g, 0, none⟩) m c) bs) {j : Nat} {b : UInt8} (hj : bs[j]? = some b) : w.cell? ⟨g, j, none⟩ = some (u8v b) := by
  have := World.ownsRow.cells h (g := g) rfl j (u8v b) (by simp [hj])
  rwa [Addr.add_none, Nat.zero_add] at this

theorem Chg.own {S : Nat → Prop} {w w' : World} {row : Option Nat} (h : Chg S w w') (hs : ∀ k, k < w.heap.size → S k → some k = row := by intro k _ h; exact h.elim) : w.grownBy w' row :=
  ⟨h.os, h.tape, h.output, h.size, fun k hk hne => h.block k hk (fun hS => hne (hs k hk hS))⟩
theorem Chg.moved {w w' : World} {v v' : Value} (h : Moved w w' v v') : Chg (fun k => some k = v.ownBlock) w w' := Chg.grown h.g

section
variable {Q : Exit → Act → World → Prop} {n : Nat} {l : Env} {w : World} {M : Env → World → Prop} {t : TypeId} {pos : String} {af : Array Edge} {d : Nat} {x y : Operand} {base : Nat} {v : Value} {bs news : List UInt8}

theorem OP.append (news : List UInt8) {ad : Addr} {m c : Nat} (hdn : d < n) (hx : ev l x = some v) (hy : ev l y = some (.slice (some ad) m c)) (hB : Buf w base v bs) (hm : news.length = m)
    (hnews : ∀ j u, (news.map u8v)[j]? = some u → w.cell? (ad.add j) = some u) (hl : bs.length + news.length ≤ 140737488355328) (hb : base ≤ w.heap.size)
    (h : ∀ v' w', Buf w' base v' (bs ++ news) → Moved w w' v v' → M ((d, v') :: l) w') :
    OP Tryd.prog Q ⟨some d, .call { callee := .builtin .append, args := #[x, y], argTypes := #[36, 36] }, t, pos, af, none⟩ n l w M := by
  obtain ⟨i0, hi, hz0, hz1, hz2⟩ := info_parts Tryd.info5
  subst hm
  obtain ⟨v', w', hr, h2, h3, _, h5⟩ := run_append_own_at (P := Tryd.prog) w base 36 t 5 i0 (.int .u8 0) 1 1 Tryd.underlying36 hi hz0 hz1 hz2 rfl (by decide) v bs.length (bs.map u8v) hB ad news.length c (news.map u8v) (by simp) hnews (u8v_one _) (by unfold maxLen; omega) (by omega) hb
  refine OP.val (v := v') (w' := w') hdn (fun r _ _ _ _ _ he => ?_) (h v' w' ?_ ⟨h3, h5.imp id (fun e => ⟨_, e, Nat.le_refl _⟩)⟩)
  · simp only [execOp, resolve, invoke, builtin, Sem.run_bind, Sem.run_pure, Result.andThen_ok, List.map_toArray, List.map_cons, List.map_nil, he x _ hx, he y _ hy]
    have e1 : ∀ ty, (Builtin.append_ #[36, 36] ty #[v, .slice (some ad) news.length c]).run Tryd.prog w = (Builtin.append_ #[36, 36] t #[v, .slice (some ad) news.length c]).run Tryd.prog w := fun _ => rfl
    rw [e1, hr]; rfl
  · unfold Buf; rw [List.length_append, List.map_append]; exact h2

/-- Appending one byte that was laid in a block of its own. -/
theorem cells_one {w : World} {b : Nat} {c : UInt8} (hb : w.heap[b]? = some (.cells #[u8v c] 5 (0, 0))) : ∀ j u, ([c].map u8v)[j]? = some u → w.cell? ((⟨b, 0, none⟩ : Addr).add j) = some u := by
  intro j u hj
  rw [Addr.add_none, Nat.zero_add]
  refine cell_at hb ?_
  match j, hj with
  | 0, hj => simpa using hj

theorem cells_list {w : World} {b o : Nat} {cs : Array Value} {e : TypeId} {fr : Nat × Nat} {l : List UInt8} (hb : w.heap[b]? = some (.cells cs e fr)) (h : ∀ j u, (l.map u8v)[j]? = some u → cs[o + j]? = some u) : ∀ j u, (l.map u8v)[j]? = some u → w.cell? ((⟨b, o, none⟩ : Addr).add j) = some u := by
  intro j u hj
  rw [Addr.add_none]
  exact cell_at hb (h j u hj)

theorem OP.appendByte {b : UInt8} {g c : Nat} (hdn : d < n) (hx : ev l x = some v) (hy : ev l y = some (.slice (some ⟨g, 0, none⟩) 1 c)) (hB : Buf w base v bs) (hg : w.heap[g]? = some (.cells #[u8v b] 5 (0, 0)))
    (hl : bs.length + 1 ≤ 140737488355328) (hb : base ≤ w.heap.size)
    (h : ∀ v' w', Buf w' base v' (bs ++ [b]) → Moved w w' v v' → M ((d, v') :: l) w') :
    OP Tryd.prog Q ⟨some d, .call { callee := .builtin .append, args := #[x, y], argTypes := #[36, 36] }, t, pos, af, none⟩ n l w M :=
  OP.append [b] hdn hx hy hB rfl (cells_one hg) hl hb h

/-- Appending a string's bytes. -/
theorem run_append_str {w : World} {s : List UInt8} {ty : TypeId} (hB : Buf w base v bs) (hl : bs.length + s.length ≤ 140737488355328) (hb : base ≤ w.heap.size) :
    ∃ v' w', (Builtin.append_ #[36, 9] ty #[v, .string ⟨s.toArray⟩]).run Tryd.prog w = .ok v' w' ∧ Buf w' base v' (bs ++ s) ∧ Moved w w' v v' := by
  obtain ⟨i0, hi, hz0, hz1, hz2⟩ := info_parts Tryd.info5
  have hsz : (⟨s.toArray⟩ : ByteArray).size = s.length := by simp [ByteArray.size]
  have hsc : Lib.strCells ⟨s.toArray⟩ = s.map u8v := by simp [Lib.strCells, u8v]
  have hxl : (bs.map u8v).length = bs.length := by simp
  have grown : ∀ (old : Nat), old < bs.length + s.length →
      Buf (w.drew.alloc (.cells ((bs.map u8v).toArray ++ (s.map u8v).toArray ++ Builtin.zeroCells (Value.int .u8 0).cells (grownCap w (bs.length + s.length) old 5 - (bs.length + s.length))) 5)) base
        (.slice (some ⟨w.heap.size, 0, none⟩) (bs.length + s.length) (grownCap w (bs.length + s.length) old 5)) (bs ++ s) := by
    intro old ho
    have hge := grownCap_ge w (bs.length + s.length) old 5
    have hcm : grownCap w (bs.length + s.length) old 5 ≤ maxLen := grownCap_le_maxLen w (bs.length + s.length) old 5 (by unfold maxLen; omega)
    refine ⟨by simp, .inr ⟨w.heap.size, _, _, by rw [List.length_append], hb, heap_alloc_new w.drew _, by rw [List.length_append]; exact hge, hcm, ?_, ?_⟩⟩
    · have hz1' : (Value.int IntKind.u8 0).cells.size = 1 := rfl
      simp only [Array.size_append, List.size_toArray, size_zeroCells, hz1', List.length_map]
      omega
    · simp only [Array.toList_append, List.map_append]
      exact List.take_left' (by simp)
  have moved : ∀ (o : Obj) (v' : Value), v'.ownBlock = some w.heap.size → Moved w (w.drew.alloc o) v v' := fun o v' hv' =>
    ⟨⟨rfl, rfl, rfl, by simp, fun k hk _ => Below.heap_alloc w.drew o k hk⟩, .inr ⟨_, hv', Nat.le_refl _⟩⟩
  rcases hB.2 with ⟨rfl, h0⟩ | ⟨g, cap, cur, rfl, hbg, hg, hnc, hcm, hcs, htake⟩
  · have hbs : bs = [] := List.eq_nil_of_length_eq_zero h0
    subst hbs
    by_cases hm : s = []
    · subst hm
      refine ⟨.slice none 0 0, w, ?_, by simpa using hB, Moved.refl _ _⟩
      have hf := Lib.run_firstCells_string (P := Tryd.prog) w 1 ⟨#[]⟩
      have hf' : (Builtin.firstCells 1 0 (.string ⟨#[]⟩)).run Tryd.prog w = .ok #[] w := hf
      simp [Builtin.append_, run_underlying Tryd.underlying36, run_underlying Tryd.underlying9, sizeOf, typeInfo, hi, hz1, Builtin.lenOf, hf', ByteArray.size]
    · have hpos : 0 < s.length := List.length_pos_iff.2 hm
      have hr := run_append_nil_string (P := Tryd.prog) w 36 9 ty 5 i0 (.int .u8 0) Tryd.underlying36 Tryd.underlying9 hi hz0 ⟨s.toArray⟩ (by rw [hsz]; exact hpos) (by rw [hsz]; simp at hl; omega) (by rw [hz2, hsz]; simp at hl; omega)
      have e1 : ((⟨s.toArray⟩ : ByteArray).data.map fun b => Value.int .u8 b.toNat) = (s.map u8v).toArray := by
        apply Array.ext'; simp [u8v]
      rw [e1, hsz] at hr
      have hgr := grown 0 (by simp; omega)
      simp only [List.map_nil, List.length_nil, Nat.zero_add, List.nil_append, Array.empty_append] at hgr
      exact ⟨_, _, hr, by simpa using hgr, moved _ _ rfl⟩
  · by_cases hroom : bs.length + s.length ≤ cap
    · have hcs' : cur.size = cap := by simpa using hcs
      have hr := Lib.run_append_room_string (P := Tryd.prog) w 36 9 ty 5 i0 Tryd.underlying36 Tryd.underlying9 hi hz1 g bs.length cap cur hg ⟨s.toArray⟩ (by rw [hsz]; exact hroom) (by rw [hsz]; omega)
      rw [hsc, hsz] at hr
      refine ⟨_, _, hr, ⟨by simp, .inr ⟨g, cap, _, by rw [List.length_append], hbg, setRow_heap w g cur _ 5 _ hg, by rw [List.length_append]; exact hroom, hcm, ?_, ?_⟩⟩, ⟨⟨rfl, rfl, rfl, by simp, fun k _ hk => setRow_other w g k _ (fun e => hk (by simp [Value.ownBlock, e]))⟩, .inl rfl⟩⟩
      · simp only [List.size_toArray, List.length_append, List.length_take, List.length_drop, Array.length_toList, List.length_map]
        omega
      · have ht' : cur.toList.take bs.length = bs.map u8v := by simpa using htake
        rw [ht', List.map_append]
        exact List.take_left' (by simp)
    · have holds : ∀ j u, (bs.map u8v)[j]? = some u → w.cell? ((⟨g, 0, none⟩ : Addr).add j) = some u := World.ownsRow.cells hB (g := g) rfl
      have hr := Lib.run_append_grow_string (P := Tryd.prog) w 36 9 ty 5 i0 (.int .u8 0) Tryd.underlying36 Tryd.underlying9 hi hz0 ⟨g, 0, none⟩ bs.length cap (bs.map u8v) (by rw [hz1]; simp) holds ⟨s.toArray⟩ (by rw [hsz]; omega) (by rw [hsz]; omega) (by rw [hz2, hsz]; exact growslice_fits (by omega) (by omega))
      rw [hsc, hsz] at hr
      exact ⟨_, _, hr, grown cap (by omega), moved _ _ rfl⟩

theorem OP.appendStr {s : List UInt8} (hdn : d < n) (hx : ev l x = some v) (hy : ev l y = some (sv s)) (hB : Buf w base v bs) (hl : bs.length + s.length ≤ 140737488355328) (hb : base ≤ w.heap.size)
    (h : ∀ v' w', Buf w' base v' (bs ++ s) → Moved w w' v v' → M ((d, v') :: l) w') :
    OP Tryd.prog Q ⟨some d, .call { callee := .builtin .append, args := #[x, y], argTypes := #[36, 9] }, t, pos, af, none⟩ n l w M := by
  obtain ⟨v', w', hr, h2, h3⟩ := run_append_str (ty := t) (s := s) hB hl hb
  refine OP.val (v := v') (w' := w') hdn (fun r ty _ _ _ _ he => ?_) (h v' w' h2 h3)
  unfold sv at hy
  simp only [execOp, resolve, invoke, builtin, Sem.run_bind, Sem.run_pure, Result.andThen_ok, List.map_toArray, List.map_cons, List.map_nil, he x _ hx, he y _ hy]
  have e1 : (Builtin.append_ #[36, 9] ty #[v, .string ⟨s.toArray⟩]).run Tryd.prog w = (Builtin.append_ #[36, 9] t #[v, .string ⟨s.toArray⟩]).run Tryd.prog w := rfl
  rw [e1, hr]; rfl

/-! ### Slices and indexes -/
variable {e : TypeId} {P : Program}
theorem R.indexAddr {b o m c i : Nat} {k : IntKind} {sz : Nat} {inf : TypeInfo} {j : Int} (ht : P.underlying t = some (.slice e)) (hi : P.info? e = some inf) (hs : inf.size = sz) (hx : ev l x = some (.slice (some ⟨b, o, none⟩) m c)) (hy : ev l y = some (.int k j)) (hj : j = (i : Int)) (hlt : i < m) :
    Runs P l (.indexAddr t x y) w (.pointer (some ⟨b, o + i * sz, none⟩)) w := fun r _ _ _ _ _ he => by
  subst hj
  simp only [execOp, he x _ hx, he y _ hy, Instr.indexAt, asIntOf, Sem.run_bind, Sem.run_pure, Result.andThen_ok, run_underlying ht]
  have h1 : (0 : Int) ≤ (i : Int) ∧ (i : Int) < (m : Int) := by omega
  simp [h1, sizeOf, typeInfo, hi, hs, Addr.add_none, hlt]

end
end Go.Proofs.YthcpjcgjmdfpjaaDoor
