/- Appends that always lay a new block, copies, slices of arrays to a bound, results in memory. -/
import Derived.Test.YthcpjcgjmdfpjaaDoorRecSpec
namespace Go.Proofs.YthcpjcgjmdfpjaaDoor
open Go Go.RowKit
set_option maxRecDepth 100000
section
variable {l : Env} {w : World} {x y z : Operand} {t ty e : TypeId} {v : Value} {b o : Nat} {n d : Nat} {Q : Exit → Act → World → Prop} {M : Env → World → Prop} {pos : String} {af : Array Edge}

/-- 'a[lo:hi:max]' of an array in memory, to constants. -/
theorem R.sliceArrM {hi mx : Operand} {hv mv : Value} {n elem h1 c1 : Nat} (ht : Tryd.prog.underlying t = some (.array n elem)) (hs : (Tryd.prog.info? elem).map (·.size) = some 1) (hx : ev l x = some (.pointer (some ⟨b, o, none⟩)))
    (hhi : ev l hi = some hv) (hmx : ev l mx = some mv) (hb : (Instr.sliceBounds false n n none (some hv) (some mv)).run Tryd.prog w = .ok (0, h1, c1) w) (hne : ¬ c1 = 0) :
    Runs Tryd.prog l (.slice t x none (some hi) (some mx)) w (.slice (some ⟨b, o, none⟩) h1 c1) w := fun r _ _ _ _ _ he => by
  obtain ⟨inf, hi', hz⟩ := inf_of hs
  have hat : (Instr.sliceAt t (.pointer (some ⟨b, o, none⟩)) none (some hv) (some mv)).run Tryd.prog w = .ok (.slice (some ⟨b, o, none⟩) h1 c1) w := by
    simp only [Instr.sliceAt, Sem.run_bind, run_underlying ht, Result.andThen_ok, Instr.sureAddr, Sem.run_pure, hb, sizeOf, typeInfo, run_program, hi', hz, Nat.mul_one, hne, if_false, Addr.add_none, Nat.sub_zero, Nat.zero_mul, Nat.add_zero]
  simp only [execOp, he x _ hx, he hi _ hhi, he mx _ hmx, Option.map_none, Option.map_some, Sem.run_bind, hat, Result.andThen_ok]
  rfl

/-- An append to a slice that is full: always a new block. -/
theorem OP.appendFull {g k : Nat} {olds news : List UInt8} {ad : Addr} {m c : Nat} (hdn : d < n) (hx : ev l x = some (.slice (some ⟨g, k, none⟩) olds.length olds.length)) (hy : ev l y = some (.slice (some ad) m c)) (holds : ∀ j u, (olds.map u8v)[j]? = some u → w.cell? ⟨g, k + j, none⟩ = some u)
    (hm : news.length = m) (hm0 : 0 < m) (hnews : ∀ j u, (news.map u8v)[j]? = some u → w.cell? (ad.add j) = some u) (hl : olds.length + news.length ≤ 70368744177664)
    (h : ∀ v' w', Buf w' w.heap.size v' (olds ++ news) → Chg (fun _ => False) w w' → M ((d, v') :: l) w') :
    OP Tryd.prog Q ⟨some d, .call { callee := .builtin .append, args := #[x, y], argTypes := #[36, 36] }, t, pos, af, none⟩ n l w M := by
  obtain ⟨i0, hi, hz0, hz1, hz2⟩ := info_parts Tryd.info5
  subst hm
  have hfit : Builtin.nextslicecap (olds.length + news.length) olds.length * i0.bytes ≤ 281474976710656 := by
    rw [hz2]; exact growslice_fits (by omega) (by omega)
  have hr := run_append_grow (P := Tryd.prog) (w := w) 36 t 5 i0 (.int .u8 0) Tryd.underlying36 hi hz0 ⟨g, k, none⟩ olds.length olds.length (olds.map u8v) (by rw [hz1]; simp) (fun j u hj => by rw [Addr.add_none]; exact holds j u hj) ad news.length c (news.map u8v) (by rw [hz1]; simp) hnews (by omega) (by omega) hfit
  have hge := grownCap_ge w (olds.length + news.length) olds.length 5
  have hcm : grownCap w (olds.length + news.length) olds.length 5 ≤ maxLen := grownCap_le_maxLen w (olds.length + news.length) olds.length 5 (by unfold maxLen; omega)
  refine OP.val (v := .slice (some ⟨w.heap.size, 0, none⟩) (olds.length + news.length) (grownCap w (olds.length + news.length) olds.length 5)) hdn (fun r _ _ _ _ _ he => ?_) (h _ (w.drew.alloc (.cells ((olds.map u8v).toArray ++ (news.map u8v).toArray ++ Builtin.zeroCells (Value.int .u8 0).cells (grownCap w (olds.length + news.length) olds.length 5 - (olds.length + news.length))) 5)) ?_ ?_)
  · simp only [execOp, resolve, invoke, builtin, Sem.run_bind, Sem.run_pure, Result.andThen_ok, List.map_toArray, List.map_cons, List.map_nil, he x _ hx, he y _ hy]
    have e1 : ∀ ty, (Builtin.append_ #[36, 36] ty #[.slice (some ⟨g, k, none⟩) olds.length olds.length, .slice (some ad) news.length c]).run Tryd.prog w = (Builtin.append_ #[36, 36] t #[.slice (some ⟨g, k, none⟩) olds.length olds.length, .slice (some ad) news.length c]).run Tryd.prog w := fun _ => rfl
    rw [e1, hr]; rfl
  · refine ⟨by simp, .inr ⟨w.heap.size, _, _, by rw [List.length_append], Nat.le_refl _, heap_alloc_new w.drew _, by rw [List.length_append]; exact hge, hcm, ?_, ?_⟩⟩
    · have hz1' : (Value.int IntKind.u8 0).cells.size = 1 := rfl
      simp only [Array.size_append, List.size_toArray, size_zeroCells, hz1', List.length_map]
      omega
    · simp only [Array.toList_append, List.map_append]
      exact List.take_left' (by simp)
  · exact (Chg.drew _ w).trans (Chg.alloc _ _ _)

/-- 'copy' of bytes into a block. -/
theorem OP.copy {g k dl dc sl sc : Nat} {ad : Addr} {cur : Array Value} {cs : List UInt8} (hdn : d < n) (hx : ev l x = some (.slice (some ⟨g, k, none⟩) dl dc)) (hy : ev l y = some (.slice (some ad) sl sc)) (hg : w.heap[g]? = some (.cells cur e (0, 0))) (hn : cs.length = Nat.min sl dl)
    (hsrc : ∀ j u, (cs.map u8v)[j]? = some u → w.cell? (ad.add j) = some u) (hfit : k + cs.length ≤ cur.size)
    (h : ∀ w', Chg (fun j => j = g) w w' → w'.heap.size = w.heap.size → w'.heap[g]? = some (.cells (cur.toList.take k ++ cs.map u8v ++ cur.toList.drop (k + cs.length)).toArray e (0, 0)) → M ((d, .int .i64 cs.length) :: l) w') :
    OP Tryd.prog Q ⟨some d, .call { callee := .builtin .copy, args := #[x, y], argTypes := #[36, 36] }, t, pos, af, none⟩ n l w M := by
  have hr := run_copy_row (P := Tryd.prog) w 36 36 t 5 g k dl dc ad sl sc cur e (cs.map u8v) Tryd.underlying36 sz5 hg (by simpa using hn) hsrc (by simpa using hfit) (u8v_one _)
  rw [List.length_map] at hr
  refine OP.val (v := .int .i64 cs.length) hdn (fun r _ _ _ _ _ he => ?_) (h _ (Chg.setRow _ _ _ rfl) (by simp) (setRow_heap _ _ _ _ _ _ hg))
  simp only [execOp, resolve, invoke, builtin, Sem.run_bind, Sem.run_pure, Result.andThen_ok, List.map_toArray, List.map_cons, List.map_nil, he x _ hx, he y _ hy]
  have e1 : ∀ ty, (Builtin.copy_ #[36, 36] ty #[.slice (some ⟨g, k, none⟩) dl dc, .slice (some ad) sl sc]).run Tryd.prog w = (Builtin.copy_ #[36, 36] t #[.slice (some ⟨g, k, none⟩) dl dc, .slice (some ad) sl sc]).run Tryd.prog w := fun _ => rfl
  rw [e1, hr]; rfl

/-! ### Results that stand in memory -/
theorem run_loadVarAgg {P : Program} {t : TypeId} {d : TypeDesc} {cs : List Value} {b o : Nat} {w : World} (ht : P.underlying t = some d) (hd : isAggD d = true) (hs : (P.info? t).map (·.size) = some cs.length) (hc : ∀ j u, cs[j]? = some u → w.cell? ⟨b, o + j, none⟩ = some u) :
    (loadVar t ⟨b, o, none⟩).run P w = .ok (.agg cs.toArray) w := by
  obtain ⟨i, hi, hz⟩ := Option.map_eq_some_iff.1 hs
  have h := run_loadCells_list (P := P) w ⟨b, o, none⟩ cs (fun j v hj => by rw [Addr.add_none]; exact hc j v hj)
  have hag : (isAgg t).run P w = .ok true w := by
    simp only [isAgg, Sem.run_bind, run_underlying ht, Result.andThen_ok]
    cases d <;> first | rfl | cases hd
  simp [loadVar, hag, sizeOf, typeInfo, hi, hz, h]
theorem EW.retC {fn : Func} {R : Ending → World → Prop} {ex : Exit} {s : Nat} {b : Nat} {ty : TypeId} {cs : List Value} {dd : TypeDesc} (he : ex = .ret ∨ ex = .normal) (hr : fn.results = #[.cell s ty]) (hs : Env.get l s = some (.pointer (some ⟨b, 0, none⟩)))
    (ht : Tryd.prog.underlying ty = some dd) (hd : isAggD dd = true) (hz : (Tryd.prog.info? ty).map (·.size) = some cs.length) (hc : ∀ j u, cs[j]? = some u → w.cell? ⟨b, j, none⟩ = some u) (hR : R (.returned (.agg cs.toArray)) w) : EW (bodyPost Tryd.prog fn R) ex n l w := by
  intro a ha
  have hres : (results fn a.tmps).run Tryd.prog w = .ok (.agg cs.toArray) w := by
    have hl := run_loadVarAgg (P := Tryd.prog) (b := b) (o := 0) (w := w) ht hd hz (fun j u hj => by rw [Nat.zero_add]; exact hc j u hj)
    unfold results
    rw [hr]
    simp [Array.getD_eq_getD_getElem?, ha.has s _ hs, asAddr, hl]
  rcases he with rfl | rfl <;> exact ⟨ha.defs, _, hres, hR⟩
theorem EW.retCT {fn : Func} {R : Ending → World → Prop} {ex : Exit} {s u : Nat} {b : Nat} {ty : TypeId} {cs : List Value} {v2 : Value} {dd : TypeDesc} (he : ex = .ret ∨ ex = .normal) (hr : fn.results = #[.cell s ty, .tmp u]) (hs : Env.get l s = some (.pointer (some ⟨b, 0, none⟩))) (hu : Env.get l u = some v2)
    (ht : Tryd.prog.underlying ty = some dd) (hd : isAggD dd = true) (hz : (Tryd.prog.info? ty).map (·.size) = some cs.length) (hc : ∀ j u, cs[j]? = some u → w.cell? ⟨b, j, none⟩ = some u) (hR : R (.returned (.tuple #[.agg cs.toArray, v2])) w) : EW (bodyPost Tryd.prog fn R) ex n l w := by
  intro a ha
  have hres : (results fn a.tmps).run Tryd.prog w = .ok (.tuple #[.agg cs.toArray, v2]) w := by
    have hl := run_loadVarAgg (P := Tryd.prog) (b := b) (o := 0) (w := w) ht hd hz (fun j u hj => by rw [Nat.zero_add]; exact hc j u hj)
    unfold results
    rw [hr]
    simp [Array.getD_eq_getD_getElem?, ha.has s _ hs, ha.has u _ hu, asAddr, hl]
  rcases he with rfl | rfl <;> exact ⟨ha.defs, _, hres, hR⟩

/-- Two that may come up: either first. -/
theorem AH.either {P : Program} {ops : Array Oper} {fuel : Nat} {listed : Array Bool} {S : World → Prop} (i j : Nat) {oi oj : Oper} (hr : Region.ready .any ops listed = [i, j]) (hi : ops[i]? = some oi) (hj : ops[j]? = some oj) (hgi : oi.guard = none) (hgj : oj.guard = none)
    (h1 : OP P Q oi n l w (fun l' w' => S w' ∧ AH P ops Q S fuel (listed.setIfInBounds i true) n l' w'))
    (h2 : OP P Q oj n l w (fun l' w' => S w' ∧ AH P ops Q S fuel (listed.setIfInBounds j true) n l' w')) : AH P ops Q S (fuel + 1) listed n l w := by
  intro a ha
  refine wpAnyH_all hr (by simp) ?_
  intro i' hi'
  rcases List.mem_cons.1 hi' with rfl | hi'
  · unfold wpOp
    simp only [hi, Region.wanted, hgi, if_true]
    exact .inl (h1 a ha _ (fun l' w' hM a' ha' => ⟨hM.1, hM.2 a' ha'⟩))
  · obtain rfl := List.mem_singleton.1 hi'
    unfold wpOp
    simp only [hj, Region.wanted, hgj, if_true]
    exact .inl (h2 a ha _ (fun l' w' hM a' ha' => ⟨hM.1, hM.2 a' ha'⟩))
end
end Go.Proofs.YthcpjcgjmdfpjaaDoor
