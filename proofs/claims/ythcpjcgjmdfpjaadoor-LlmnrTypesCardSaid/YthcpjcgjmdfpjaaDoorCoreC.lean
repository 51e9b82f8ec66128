/- Words, contracts and walks that several statements share (CoreC): Ops5, RRec, DecSpec, Dec. -/
import Derived.Test.YthcpjcgjmdfpjaaDoorCoreB
namespace Go.Proofs.YthcpjcgjmdfpjaaDoor
open Go Go.RowKit
set_option maxRecDepth 100000
section
variable {l : Env} {w : World} {x y z : Operand} {t ty e : TypeId} {v : Value} {b o : Nat} {n d : Nat} {Q : Exit → Act → World → Prop} {M : Env → World → Prop} {pos : String} {af : Array Edge}

/-- 'a[lo:hi:max]' of an array in memory, to constants. -/
theorem R.sliceArrM {hi mx : Operand} {hv mv : Value} {n elem h1 c1 : Nat} (ht : Tryd.prog.underlying t = some (.array n elem)) (hs : (Tryd.prog.info? elem).map (·.size) = some 1) (hx : ev l x = some (.pointer (some ⟨b, o, none⟩)))
    (hhi : ev l hi = some hv) (hmx : ev l mx = some mv) (hb : (Instr.sliceBounds false n n none (some hv) (some mv)).run Tryd.prog w = .ok (0, h1, c1) w) (hne : ¬ c1 = 0) :
    Runs Tryd.prog l (.slice t x none (some hi) (some mx)) w (.slice (some ⟨b, o, none⟩) h1 c1) w := fun r _ _ _ _ _ he => by
  obtain ⟨inf, hi', hz⟩ := inf_of hs
  have hat : (Instr.sliceAt t (.pointer (some ⟨b, o, none⟩)) none (some hv) (some mv)).run Tryd.prog w = .ok (.slice (some ⟨b, o, none⟩) h1 c1) w := by
    simp only [Instr.sliceAt, Sem.run_bind, run_underlying ht, Result.andThen_ok, Instr.sureAddr, Sem.run_pure, hb, sizeOf, typeInfo, run_program, hi', hz, Nat.mul_one, hne, if_false, Addr.add_none, Nat.sub_zero, Nat.add_zero]
  simp only [execOp, he x _ hx, he hi _ hhi, he mx _ hmx, Option.map_none, Option.map_some, Sem.run_bind, hat, Result.andThen_ok]
  rfl

/-- An append to a slice that is full: always a new block. -/
theorem OP.appendFull {g k : Nat} {olds news : List UInt8} {ad : Addr} {m c : Nat} (hdn : d < n) (hx : ev l x = some (.slice (some ⟨g, k, none⟩) olds.length olds.length)) (hy : ev l y = some (.slice (some ad) m c)) (holds : ∀ j u, (olds.map u8v)[j]? = some u → w.cell? ⟨g, k + j, none⟩ = some u)
    (hm : news.length = m) (hm0 : 0 < m) (hnews : ∀ j u, (news.map u8v)[j]? = some u → w.cell? (ad.add j) = some u) (hl : olds.length + news.length ≤ 70368744177664)
    (h : ∀ v' w', Buf w' w.heap.size v' (olds ++ news) → Chg (fun _ => False) w w' → M ((d, v') :: l) w') :
    OP Tryd.prog Q ⟨some d, .call { callee := .builtin .append, args := #[x, y], argTypes := #[36, 36] }, t, pos, af, none⟩ n l w M := by
  obtain ⟨i0, hi, hz0, hz1, hz2⟩ := info_parts Tryd.info5
  subst hm
  have hfit : Builtin.nextslicecap (olds.length + news.length) olds.length * i0.bytes ≤ 281474976710656 := by
    rw [hz2]; exact growslice_fits (by omega) (by omega)
  have hr := run_append_grow (P := Tryd.prog) (w := w) 36 t 5 i0 (.int .u8 0) Tryd.underlying36 hi hz0 ⟨g, k, none⟩ olds.length olds.length (olds.map u8v) (by rw [hz1]; simp) (fun j u hj => by rw [Addr.add_none]; exact holds j u hj) ad news.length c (news.map u8v) (by rw [hz1]; simp) hnews (by omega) (by omega) hfit
  have hge := grownCap_ge w (olds.length + news.length) olds.length 5
  have hcm : grownCap w (olds.length + news.length) olds.length 5 ≤ maxLen := grownCap_le_maxLen w (olds.length + news.length) olds.length 5 (by unfold maxLen; omega)
  refine OP.val (v := .slice (some ⟨w.heap.size, 0, none⟩) (olds.length + news.length) (grownCap w (olds.length + news.length) olds.length 5)) hdn (fun r _ _ _ _ _ he => ?_) (h _ (w.drew.alloc (.cells ((olds.map u8v).toArray ++ (news.map u8v).toArray ++ Builtin.zeroCells (Value.int .u8 0).cells (grownCap w (olds.length + news.length) olds.length 5 - (olds.length + news.length))) 5)) ?_ ?_)
  · simp only [execOp, resolve, invoke, builtin, Sem.run_bind, Sem.run_pure, Result.andThen_ok, List.map_toArray, List.map_cons, List.map_nil, he x _ hx, he y _ hy]
    have e1 : ∀ ty, (Builtin.append_ #[36, 36] ty #[.slice (some ⟨g, k, none⟩) olds.length olds.length, .slice (some ad) news.length c]).run Tryd.prog w = (Builtin.append_ #[36, 36] t #[.slice (some ⟨g, k, none⟩) olds.length olds.length, .slice (some ad) news.length c]).run Tryd.prog w := fun _ => rfl
    rw [e1, hr]; rfl
  · refine ⟨by simp, .inr ⟨w.heap.size, _, _, by rw [List.length_append], Nat.le_refl _, heap_alloc_new w.drew _, by rw [List.length_append]; exact hge, hcm, ?_, ?_⟩⟩
    · have hz1' : (Value.int IntKind.u8 0).cells.size = 1 := rfl
      simp only [Array.size_append, List.size_toArray, size_zeroCells, hz1', List.length_map]
      omega
    · simp only [Array.toList_append, List.map_append]
      exact List.take_left' (by simp)
  · exact (Chg.drew _ w).trans (Chg.alloc _ _ _)

/-- 'copy' of bytes into a block. -/
theorem OP.copy {g k dl dc sl sc : Nat} {ad : Addr} {cur : Array Value} {cs : List UInt8} (hdn : d < n) (hx : ev l x = some (.slice (some ⟨g, k, none⟩) dl dc)) (hy : ev l y = some (.slice (some ad) sl sc)) (hg : w.heap[g]? = some (.cells cur e (0, 0))) (hn : cs.length = Nat.min sl dl)
    (hsrc : ∀ j u, (cs.map u8v)[j]? = some u → w.cell? (ad.add j) = some u) (hfit : k + cs.length ≤ cur.size)
    (h : ∀ w', Chg (fun j => j = g) w w' → w'.heap.size = w.heap.size → w'.heap[g]? = some (.cells (cur.toList.take k ++ cs.map u8v ++ cur.toList.drop (k + cs.length)).toArray e (0, 0)) → M ((d, .int .i64 cs.length) :: l) w') :
    OP Tryd.prog Q ⟨some d, .call { callee := .builtin .copy, args := #[x, y], argTypes := #[36, 36] }, t, pos, af, none⟩ n l w M := by
  have hr := run_copy_row (P := Tryd.prog) w 36 36 t 5 g k dl dc ad sl sc cur e (cs.map u8v) Tryd.underlying36 sz5 hg (by simpa using hn) hsrc (by simpa using hfit) (u8v_one _)
  rw [List.length_map] at hr
  refine OP.val (v := .int .i64 cs.length) hdn (fun r _ _ _ _ _ he => ?_) (h _ (Chg.setRow _ _ _ rfl) (by simp) (setRow_heap _ _ _ _ _ _ hg))
  simp only [execOp, resolve, invoke, builtin, Sem.run_bind, Sem.run_pure, Result.andThen_ok, List.map_toArray, List.map_cons, List.map_nil, he x _ hx, he y _ hy]
  have e1 : ∀ ty, (Builtin.copy_ #[36, 36] ty #[.slice (some ⟨g, k, none⟩) dl dc, .slice (some ad) sl sc]).run Tryd.prog w = (Builtin.copy_ #[36, 36] t #[.slice (some ⟨g, k, none⟩) dl dc, .slice (some ad) sl sc]).run Tryd.prog w := fun _ => rfl
  rw [e1, hr]; rfl

/-! ### Results that stand in memory -/
theorem run_loadVarAgg {P : Program} {t : TypeId} {d : TypeDesc} {cs : List Value} {b o : Nat} {w : World} (ht : P.underlying t = some d) (hd : isAggD d = true) (hs : (P.info? t).map (·.size) = some cs.length) (hc : ∀ j u, cs[j]? = some u → w.cell? ⟨b, o + j, none⟩ = some u) :
    (loadVar t ⟨b, o, none⟩).run P w = .ok (.agg cs.toArray) w := by
  obtain ⟨i, hi, hz⟩ := Option.map_eq_some_iff.1 hs
  have h := run_loadCells_list (P := P) w ⟨b, o, none⟩ cs (fun j v hj => by rw [Addr.add_none]; exact hc j v hj)
  have hag : (isAgg t).run P w = .ok true w := by
    simp only [isAgg, Sem.run_bind, run_underlying ht, Result.andThen_ok]
    cases d <;> first | rfl | cases hd
  simp [loadVar, hag, sizeOf, typeInfo, hi, hz, h]
theorem EW.retC {fn : Func} {R : Ending → World → Prop} {ex : Exit} {s : Nat} {b : Nat} {ty : TypeId} {cs : List Value} {dd : TypeDesc} (he : ex = .ret ∨ ex = .normal) (hr : fn.results = #[.cell s ty]) (hs : Env.get l s = some (.pointer (some ⟨b, 0, none⟩)))
    (ht : Tryd.prog.underlying ty = some dd) (hd : isAggD dd = true) (hz : (Tryd.prog.info? ty).map (·.size) = some cs.length) (hc : ∀ j u, cs[j]? = some u → w.cell? ⟨b, j, none⟩ = some u) (hR : R (.returned (.agg cs.toArray)) w) : EW (bodyPost Tryd.prog fn R) ex n l w := by
  intro a ha
  have hres : (results fn a.tmps).run Tryd.prog w = .ok (.agg cs.toArray) w := by
    have hl := run_loadVarAgg (P := Tryd.prog) (b := b) (o := 0) (w := w) ht hd hz (fun j u hj => by rw [Nat.zero_add]; exact hc j u hj)
    unfold results
    rw [hr]
    simp [Array.getD_eq_getD_getElem?, ha.has s _ hs, asAddr, hl]
  rcases he with rfl | rfl <;> exact ⟨ha.defs, _, hres, hR⟩
theorem EW.retCT {fn : Func} {R : Ending → World → Prop} {ex : Exit} {s u : Nat} {b : Nat} {ty : TypeId} {cs : List Value} {v2 : Value} {dd : TypeDesc} (he : ex = .ret ∨ ex = .normal) (hr : fn.results = #[.cell s ty, .tmp u]) (hs : Env.get l s = some (.pointer (some ⟨b, 0, none⟩))) (hu : Env.get l u = some v2)
    (ht : Tryd.prog.underlying ty = some dd) (hd : isAggD dd = true) (hz : (Tryd.prog.info? ty).map (·.size) = some cs.length) (hc : ∀ j u, cs[j]? = some u → w.cell? ⟨b, j, none⟩ = some u) (hR : R (.returned (.tuple #[.agg cs.toArray, v2])) w) : EW (bodyPost Tryd.prog fn R) ex n l w := by
  intro a ha
  have hres : (results fn a.tmps).run Tryd.prog w = .ok (.tuple #[.agg cs.toArray, v2]) w := by
    have hl := run_loadVarAgg (P := Tryd.prog) (b := b) (o := 0) (w := w) ht hd hz (fun j u hj => by rw [Nat.zero_add]; exact hc j u hj)
    unfold results
    rw [hr]
    simp [Array.getD_eq_getD_getElem?, ha.has s _ hs, ha.has u _ hu, asAddr, hl]
  rcases he with rfl | rfl <;> exact ⟨ha.defs, _, hres, hR⟩

/-- Two that may come up: either first. -/
theorem AH.either {P : Program} {ops : Array Oper} {fuel : Nat} {listed : Array Bool} {S : World → Prop} (i j : Nat) {oi oj : Oper} (hr : Region.ready .any ops listed = [i, j]) (hi : ops[i]? = some oi) (hj : ops[j]? = some oj) (hgi : oi.guard = none) (hgj : oj.guard = none)
    (h1 : OP P Q oi n l w (fun l' w' => S w' ∧ AH P ops Q S fuel (listed.setIfInBounds i true) n l' w'))
    (h2 : OP P Q oj n l w (fun l' w' => S w' ∧ AH P ops Q S fuel (listed.setIfInBounds j true) n l' w')) : AH P ops Q S (fuel + 1) listed n l w := by
  intro a ha
  refine wpAnyH_all hr (by simp) ?_
  intro i' hi'
  rcases List.mem_cons.1 hi' with rfl | hi'
  · unfold wpOp
    simp only [hi, Region.wanted, hgi, if_true]
    exact .inl (h1 a ha _ (fun l' w' hM a' ha' => ⟨hM.1, hM.2 a' ha'⟩))
  · obtain rfl := List.mem_singleton.1 hi'
    unfold wpOp
    simp only [hj, Region.wanted, hgj, if_true]
    exact .inl (h2 a ha _ (fun l' w' hM a' ha' => ⟨hM.1, hM.2 a' ha'⟩))
end
end Go.Proofs.YthcpjcgjmdfpjaaDoor

namespace Go.Proofs.YthcpjcgjmdfpjaaDoor
open Go Go.RowKit
set_option maxRecDepth 100000
set_option maxHeartbeats 4000000

theorem build57_2 (s : List UInt8) (t : Int) (w : World) : (Instr.build 57 #[(0, sv s), (1, .int .i64 t)]).run Tryd.prog w = .ok (Rec.val ⟨s, t, 0, zero16, [], []⟩) w := by unfold sv; kernel_rfl
theorem build57_0 (w : World) : (Instr.build 57 #[]).run Tryd.prog w = .ok (Rec.val ⟨[], 0, 0, zero16, [], []⟩) w := by kernel_rfl
theorem inf108 : ∃ i, Tryd.prog.info? 108 = some i ∧ i.size = 12 := inf_of sz108
theorem u8v_all (l : List UInt8) : (l.map u8v).toArray.all (·.oneCell') = true := by
  rw [Array.all_eq_true_iff_forall_mem]
  intro u hu
  exact u8v_one _ u (by simpa using hu)
theorem guard5 {b : Bool} {v n m : Nat} : b = true ∨ (b = false ∧ v ≠ 1) ∨ (b = false ∧ v = 1 ∧ m < n) ∨ (b = false ∧ v = 1 ∧ n ≤ m) := by
  cases b <;> simp <;> omega
theorem Buf.open {w : World} {base : Nat} {v : Value} {bs : List UInt8} (h : Buf w base v bs) (h0 : bs ≠ []) : ∃ g cap, v = .slice (some ⟨g, 0, none⟩) bs.length cap ∧ base ≤ g ∧ g < w.heap.size ∧ bs.length ≤ cap ∧ ∀ (j : Nat) (b : UInt8), bs[j]? = some b → w.cell? ⟨g, j, none⟩ = some (u8v b) := by
  have h' := h
  rcases h.2 with ⟨rfl, hn⟩ | ⟨g, cap, cur, rfl, hb, hg, hle, r⟩
  · exact absurd (List.eq_nil_of_length_eq_zero hn) h0
  · exact ⟨g, cap, rfl, hb, (Array.getElem?_eq_some_iff.1 hg).1, hle, fun j b hj => h'.cell hj⟩
theorem cells_at {w : World} {g o : Nat} {dat : List UInt8} (h : ∀ (j : Nat) (b : UInt8), dat[j]? = some b → w.cell? ⟨g, o + j, none⟩ = some (u8v b)) : ∀ j u, (dat.map u8v)[j]? = some u → w.cell? ((⟨g, o, none⟩ : Addr).add j) = some u := by
  intro j u hj
  rw [Addr.add_none]
  rw [List.getElem?_map, Option.map_eq_some_iff] at hj
  obtain ⟨b, hb, rfl⟩ := hj
  exact h j b hb
theorem cells_at0 {w : World} {g : Nat} {dat : List UInt8} (h : ∀ (j : Nat) (b : UInt8), dat[j]? = some b → w.cell? ⟨g, j, none⟩ = some (u8v b)) : ∀ j u, (dat.map u8v)[j]? = some u → w.cell? ((⟨g, 0, none⟩ : Addr).add j) = some u :=
  cells_at (fun j b hj => by rw [Nat.zero_add]; exact h j b hj)
theorem data_at {w : World} {bs : List UInt8} {g o a v c : Nat} (h : ∀ (j : Nat) (b : UInt8), bs[j]? = some b → w.cell? ⟨g, o + j, none⟩ = some (u8v b)) (hl : a + v ≤ bs.length) (hc : bs.length ≤ c) :
    ∃ g2 o2, (if c = a then (⟨g, o, none⟩ : Addr) else ⟨g, o + a, none⟩) = ⟨g2, o2, none⟩ ∧ g = g2 ∧ ∀ (j : Nat) (b : UInt8), ((bs.drop a).take v)[j]? = some b → w.cell? ⟨g2, o2 + j, none⟩ = some (u8v b) := by
  by_cases e : c = a
  · refine ⟨g, o, if_pos e, rfl, fun j b hj => ?_⟩
    have := (List.getElem?_eq_some_iff.1 hj).1
    simp at this; omega
  · refine ⟨g, o + a, if_neg e, rfl, fun j b hj => ?_⟩
    rw [List.getElem?_take] at hj
    split at hj
    · rw [List.getElem?_drop] at hj; rw [Nat.add_assoc]; exact h (a + j) b hj
    · cases hj

def BodyRes (res : Option Rec) (r : Rec) (b : Bool) : Prop :=
  match res with
  | some r0 => r = r0 ∧ b = false
  | none => b = true
theorem rr_false {res : Option Rec} {r : Rec} {e : Nat} {b : Bool} (h : BodyRes res r b) (hr : rightR r = false) : RecRes (finR res e) r e true := by
  cases res with
  | none => rfl
  | some r0 => obtain ⟨rfl, _⟩ := h; simp only [finR]; rw [if_neg (by simp [hr])]; rfl
theorem rr_true {res : Option Rec} {r : Rec} {e : Nat} {b : Bool} (h : BodyRes res r b) (hr : rightR r = true) : RecRes (finR res e) r e b := by
  cases res with
  | none => exact h
  | some r0 => obtain ⟨rfl, rfl⟩ := h; simp only [finR]; rw [if_pos hr]; exact ⟨rfl, rfl, rfl⟩
section
variable {bs nm s2 : List UInt8} {ty a n a6 : Nat} {ttl : Int} {b6 : Bool}
theorem body_a (h : ty = 1) (h2 : n = 4) : recBody bs nm ty ttl a n = some ⟨nm, ty, ttl, mappedL ++ (bs.drop a).take n, [], []⟩ := by rw [recBody, if_pos ⟨h, h2⟩]
theorem body_aaaa (h : ty = 28) (h2 : n = 16) : recBody bs nm ty ttl a n = some ⟨nm, ty, ttl, (bs.drop a).take n, [], []⟩ := by rw [recBody, if_neg (by omega), if_pos ⟨h, h2⟩]
theorem body_far (h : ty = 2 ∨ ty = 5 ∨ ty = 12) (hn : if false = true then NameRes none s2 a6 b6 else NameRes (rdName bs 300 a 0 0 [] a) s2 a6 b6) (hne : a6 ≠ a + n) : recBody bs nm ty ttl a n = none := by
  rw [recBody, if_neg (by omega), if_neg (by omega), if_pos h]
  cases b6 with
  | true => rcases nres_no hn with h1 | h1
            · cases h1
            · rw [h1]
  | false => rw [(nres_ok hn).2]; simp only; rw [if_neg hne]
theorem body_near (h : ty = 2 ∨ ty = 5 ∨ ty = 12) (hn : if false = true then NameRes none s2 a6 b6 else NameRes (rdName bs 300 a 0 0 [] a) s2 a6 b6) (hne : a6 = a + n) : BodyRes (recBody bs nm ty ttl a n) ⟨nm, ty, ttl, zero16, s2, []⟩ b6 := by
  rw [recBody, if_neg (by omega), if_neg (by omega), if_pos h]
  cases b6 with
  | true => rcases nres_no hn with h1 | h1
            · cases h1
            · rw [h1]; rfl
  | false => rw [(nres_ok hn).2]; simp only; rw [if_pos hne]; exact ⟨rfl, rfl⟩
theorem body_other (h1 : ¬ (ty = 1 ∧ n = 4)) (h2 : ¬ (ty = 28 ∧ n = 16)) (h3 : ¬ (ty = 2 ∨ ty = 5 ∨ ty = 12)) : recBody bs nm ty ttl a n = some ⟨nm, ty, ttl, zero16, [], (bs.drop a).take n⟩ := by
  rw [recBody, if_neg h1, if_neg h2, if_neg h3]
end
section
variable {bs : List UInt8} {a : Nat} {bad : Bool} {s : List UInt8} {a1 a2 a3 a4 a5 v2 v3 v4 v5 : Nat} {b1 b2 b3 b4 : Bool}
theorem chain_body (h1 : if bad = true then NameRes none s a1 b1 else NameRes (rdName bs 300 a 0 0 [] a) s a1 b1) (e2 : numR bs 2 a1 b1 = (v2, a2, b2)) (e3 : numR bs 2 a2 b2 = (v3, a3, b3)) (e4 : numR bs 4 a3 b3 = (v4, a4, b4)) (e5 : numR bs 2 a4 b4 = (v5, a5, false)) (hc : v3 = 1) (hl : a5 + v5 ≤ bs.length) :
    (if bad = true then none else readRec bs a) = finR (recBody bs s v2 (ttlOf v4) a5 v5) (a5 + v5) := by
  obtain ⟨rfl, hn, hl1, rfl, rfl, rfl, rfl, rfl⟩ := chain_ok h1 e2 e3 e4 e5 rfl
  rw [if_neg (by simp), readRec_body hn hl1 hc hl]
end

theorem rrec_any (rb : Nat) (A : Option Addr) (m c : Nat) (bs : List UInt8) (a : Nat) (bad : Bool) (w : World) (hR : RSt w rb A m c a bad) (hS : Src w A m c bs) (hg : ∀ g o, A = some ⟨g, o, none⟩ → g ≠ rb ∧ g < w.heap.size) (ha : In bs a bad) (hm : m ≤ 1099511627776) (hG : Glob w) (hrb0 : rb ≠ 0) :
    Calls Tryd.prog 47 #[.pointer (some ⟨rb, 0, none⟩)] w fun e w' => ∃ r a' bad', e = .returned r.val ∧ r.addr.length = 16 ∧ RSt w' rb A m c a' bad' ∧ Chg (fun k => k = rb) w w' ∧ RecRes (if bad = true then none else readRec bs a) r a' bad' ∧ In bs a' bad' ∧ r.small := by
  have hrb : rb < w.heap.size := (Array.getElem?_eq_some_iff.1 hR).1
  have hlen := hS.len
  refine calls_cw (args := [.pointer (some ⟨rb, 0, none⟩)]) Tryd.func47 rfl rfl ?_
  show CW _ _ _ 131 [(0, .pointer (some ⟨rb, 0, none⟩))] w
  refine CW.rseq ?_
  refine WL.eff rfl (OP.allocR (by decide) ?_)
  intro w1 hc1 hs1 hB2
  have hC : Chg (fun k => k = rb) w w1 := hc1.mono (fun _ _ h => h.elim)
  have hS := hS.kept hc1 (fun _ _ _ h => h)
  have hG := hG.kept hc1 (fun h => h)
  have hR := hc1.at hR (fun h => h)
  have hsz : w.heap.size < w1.heap.size := by omega
  refine WL.next ?_
  refine CW.rseq ?_
  refine WL.op (by decide) (R.move rfl) ?_
  refine WL.eff rfl (OP.call (by decide) Tryd.func46 (by kernel_rfl) (by kernel_rfl) rfl (rname_st rb A m c bs a bad _ hR hS (fun g o h => (hg g o h).1) ha hm) ?_)
  rintro ed w2 ⟨s, a1, b1, rfl, hR, hc2, h1, hsl0⟩
  refine ⟨_, rfl, ?_⟩
  have hsl : s.length ≤ 1099511627776 := by omega
  have hin1 := nres_in h1
  have hC := hC.trans hc2
  have hS := hS.kept hc2 (fun g o h => (hg g o h).1)
  have hG := hG.kept hc2 (by omega)
  have hsz := Nat.le_trans hsz hc2.size
  have hB2 := hc2.at hB2 (by omega)
  refine WL.op (by decide) (R.move rfl) ?_
  refine WL.eff rfl (OP.call (by decide) Tryd.func45 (by kernel_rfl) (by kernel_rfl) rfl (num_st rb A m c bs 2 _ _ _ hR hS (by decide) (by decide) hin1 hm) ?_)
  rintro ed w3 ⟨v2, a2, b2, e2, rfl, hR, hc3⟩
  refine ⟨_, rfl, ?_⟩
  have hin3 := numR_in e2
  have hC := hC.trans hc3
  have hS := hS.kept hc3 (fun g o h => (hg g o h).1)
  have hG := hG.kept hc3 (by omega)
  have hsz := Nat.le_trans hsz hc3.size
  have hB2 := hc3.at hB2 (by omega)
  refine WL.op (by decide) (R.build (parts := [(0, _), (1, _)]) (vals := [(0, _), (1, _)]) rfl (fun w => build57_2 _ _ w)) ?_
  refine WL.eff rfl (OP.allocR (by decide) ?_)
  intro w4 hc4 hs4 hB3
  have hC := hC.trans (hc4.mono (fun _ _ h => h.elim))
  have hS := hS.kept hc4 (fun _ _ _ h => h)
  have hG := hG.kept hc4 (fun h => h)
  have hR := hc4.at hR (fun h => h)
  have hB2 := hc4.at hB2 (fun h => h)
  refine WL.eff rfl (OP.storeR rfl rfl (by rfl) (by rfl) hB3 ?_)
  intro w5 hc5 hs5 hB3
  have hC := hC.then hc5 (fun k hk e => by omega)
  have hS := hS.kept hc5 (fun g o h e => by have := hg g o h; omega)
  have hG := hG.kept hc5 (by omega)
  have hR := hc5.at hR (by omega)
  have hB2 := hc5.at hB2 (by omega)
  have hsz : w4.heap.size ≤ w5.heap.size := by omega
  refine WL.next ?_
  refine CW.rseq ?_
  refine WL.op (by decide) (R.move rfl) ?_
  refine WL.eff rfl (OP.call (by decide) Tryd.func45 (by kernel_rfl) (by kernel_rfl) rfl (num_st rb A m c bs 2 _ _ _ hR hS (by decide) (by decide) hin3 hm) ?_)
  rintro ed w6 ⟨v3, a3, b3, e3, rfl, hR, hc6⟩
  refine ⟨_, rfl, ?_⟩
  have hin6 := numR_in e3
  have hC := hC.trans hc6
  have hS := hS.kept hc6 (fun g o h => (hg g o h).1)
  have hG := hG.kept hc6 (by omega)
  have hsz := Nat.le_trans hsz hc6.size
  have hB2 := hc6.at hB2 (by omega)
  have hB3 := hc6.at hB3 (by omega)
  refine WL.op (by decide) (R.assign rfl) ?_
  refine WL.next ?_
  refine CW.rseq ?_
  refine WL.op (by decide) (R.move rfl) ?_
  refine WL.eff rfl (OP.call (by decide) Tryd.func45 (by kernel_rfl) (by kernel_rfl) rfl (num_st rb A m c bs 4 _ _ _ hR hS (by decide) (by decide) hin6 hm) ?_)
  rintro ed w7 ⟨v4, a4, b4, e4, rfl, hR, hc7⟩
  refine ⟨_, rfl, ?_⟩
  have hin7 := numR_in e4
  have hC := hC.trans hc7
  have hS := hS.kept hc7 (fun g o h => (hg g o h).1)
  have hG := hG.kept hc7 (by omega)
  have hsz := Nat.le_trans hsz hc7.size
  have hB2 := hc7.at hB2 (by omega)
  have hB3 := hc7.at hB3 (by omega)
  refine WL.op (by decide) (R.minC rfl rfl) ?_
  refine WL.op (by decide) (FA57_2 rfl) ?_
  refine WL.eff rfl (OP.store1 sz3 rfl rfl rfl rfl hB3 (by rw [List.size_toArray, Rec.length rfl]; decide) rfl ?_)
  intro w8 hc8 hs8 hB3n
  have hB3 := hB3n
  rw [show (0 + 2 : Nat) = 2 from rfl, Rec.set2] at hB3
  have hC := hC.then hc8 (fun k hk e => by omega)
  have hS := hS.kept hc8 (fun g o h e => by have := hg g o h; omega)
  have hG := hG.kept hc8 (by omega)
  have hR := hc8.at hR (by omega)
  have hB2 := hc8.at hB2 (by omega)
  have hsz := Nat.le_trans hsz hc8.size
  refine WL.next ?_
  refine CW.rseq ?_
  refine WL.op (by decide) (R.move rfl) ?_
  refine WL.eff rfl (OP.call (by decide) Tryd.func45 (by kernel_rfl) (by kernel_rfl) rfl (num_st rb A m c bs 2 _ _ _ hR hS (by decide) (by decide) hin7 hm) ?_)
  rintro ed w9 ⟨v5, a5, b5, e5, rfl, hR, hc9⟩
  refine ⟨_, rfl, ?_⟩
  have hin9 := numR_in e5
  have hC := hC.trans hc9
  have hS := hS.kept hc9 (fun g o h => (hg g o h).1)
  have hG := hG.kept hc9 (by omega)
  have hsz := Nat.le_trans hsz hc9.size
  have hB2 := hc9.at hB2 (by omega)
  have hB3 := hc9.at hB3 (by omega)
  refine WL.op (by decide) (R.assign rfl) ?_
  refine WL.next ?_
  refine CW.seq ?_
  refine CW.seq ?_
  rcases guard5 (b := b5) (v := v3) (n := a5 + v5) (m := bs.length) with hgd | hgd | hgd | hgd
  · skip
    obtain rfl := hgd
    refine CW.draw (fun w => RSt w rb A m c a5 true) (by kernel_rfl) ?_
    refine AH.take 0 rfl (by kernel_rfl) (by kernel_rfl) (by kernel_rfl) (fun _ _ _ _ h => h) hR (by decide) (fun w hS => R.move rfl) ?_
    refine AH.take 1 rfl (by kernel_rfl) (by kernel_rfl) (by kernel_rfl) (fun _ _ _ _ h => h) hR (by decide) (fun w hS => R.nilCheck rfl) ?_
    refine AH.take 2 rfl (by kernel_rfl) (by kernel_rfl) (by kernel_rfl) (fun _ _ _ _ h => h) hR (by decide) (fun w hS => FA100_2 rfl) ?_
    refine AH.take 3 rfl (by kernel_rfl) (by kernel_rfl) (by kernel_rfl) (fun _ _ _ _ h => h) hR (by decide) (fun w hS => R.load Tryd.underlying4 rfl rfl (cell_at hS rfl)) ?_
    refine AH.take 4 rfl (by kernel_rfl) (by kernel_rfl) (by kernel_rfl) (fun _ _ _ _ h => h) hR (by decide) (fun w hS => R.move rfl) ?_
    refine AH.pass 5 rfl (by kernel_rfl) (by kernel_rfl) (by kernel_rfl) (fun _ _ _ _ h => h) hR (by decide) rfl rfl rfl ?_
    refine AH.pass 6 rfl (by kernel_rfl) (by kernel_rfl) (by kernel_rfl) (fun _ _ _ _ h => h) hR (by decide) rfl rfl rfl ?_
    refine AH.take 7 rfl (by kernel_rfl) (by kernel_rfl) (by kernel_rfl) (fun _ _ _ _ h => h) hR (by decide) (fun w hS => R.pickT rfl rfl) ?_
    refine AH.take 8 rfl (by kernel_rfl) (by kernel_rfl) (by kernel_rfl) (fun _ _ _ _ h => h) hR (by decide) (fun w hS => R.move rfl) ?_
    refine AH.pass 9 rfl (by kernel_rfl) (by kernel_rfl) (by kernel_rfl) (fun _ _ _ _ h => h) hR (by decide) rfl rfl rfl ?_
    refine AH.pass 10 rfl (by kernel_rfl) (by kernel_rfl) (by kernel_rfl) (fun _ _ _ _ h => h) hR (by decide) rfl rfl rfl ?_
    refine AH.pass 11 rfl (by kernel_rfl) (by kernel_rfl) (by kernel_rfl) (fun _ _ _ _ h => h) hR (by decide) rfl rfl rfl ?_
    refine AH.pass 12 rfl (by kernel_rfl) (by kernel_rfl) (by kernel_rfl) (fun _ _ _ _ h => h) hR (by decide) rfl rfl rfl ?_
    refine AH.pass 13 rfl (by kernel_rfl) (by kernel_rfl) (by kernel_rfl) (fun _ _ _ _ h => h) hR (by decide) rfl rfl rfl ?_
    refine AH.pass 14 rfl (by kernel_rfl) (by kernel_rfl) (by kernel_rfl) (fun _ _ _ _ h => h) hR (by decide) rfl rfl rfl ?_
    refine AH.pass 15 rfl (by kernel_rfl) (by kernel_rfl) (by kernel_rfl) (fun _ _ _ _ h => h) hR (by decide) rfl rfl rfl ?_
    refine AH.pass 16 rfl (by kernel_rfl) (by kernel_rfl) (by kernel_rfl) (fun _ _ _ _ h => h) hR (by decide) rfl rfl rfl ?_
    refine AH.pass 17 rfl (by kernel_rfl) (by kernel_rfl) (by kernel_rfl) (fun _ _ _ _ h => h) hR (by decide) rfl rfl rfl ?_
    refine AH.pass 18 rfl (by kernel_rfl) (by kernel_rfl) (by kernel_rfl) (fun _ _ _ _ h => h) hR (by decide) rfl rfl rfl ?_
    refine AH.pass 19 rfl (by kernel_rfl) (by kernel_rfl) (by kernel_rfl) (fun _ _ _ _ h => h) hR (by decide) rfl rfl rfl ?_
    refine AH.pass 20 rfl (by kernel_rfl) (by kernel_rfl) (by kernel_rfl) (fun _ _ _ _ h => h) hR (by decide) rfl rfl rfl ?_
    refine AH.take 21 rfl (by kernel_rfl) (by kernel_rfl) (by kernel_rfl) (fun _ _ _ _ h => h) hR (by decide) (fun w hS => R.pickT rfl rfl) ?_
    refine AH.done (by kernel_rfl) ?_
    have hC := hC.trans (Chg.drew _ _)
    have hS := hS.kept (Chg.drew (fun _ => False) _) (fun _ _ _ h => h)
    have hG := hG.kept (Chg.drew (fun _ => False) _) (fun h => h)
    have hsz := Nat.le_trans hsz (Chg.drew (fun _ => False) _).size
    have hgd : (true = true ∨ (true = false ∧ v3 ≠ 1) ∨ (true = false ∧ bs.length < a5 + v5)) := .inl rfl
    refine EW.next ?_
    refine CW.condT rfl ?_
    refine CW.rseq ?_
    refine WL.op (by decide) (R.move rfl) ?_
    refine WL.op (by decide) (R.nilCheck rfl) ?_
    refine WL.op (by decide) (FA100_2 rfl) ?_
    refine WL.eff rfl (OP.store1 sz4 rfl rfl rfl rfl hR (Nat.le_of_ble_eq_true rfl) rfl ?_)
    intro w10 hcs _ hR
    have hC := hC.trans hcs
    have hS := hS.kept hcs (fun g o h => (hg g o h).1)
    have hG := hG.kept hcs (by omega)
    have hsz := Nat.le_trans hsz hcs.size
    have hB2 := hcs.at hB2 (by omega)
    have hB3 := hcs.at hB3 (by omega)
    refine WL.next ?_
    refine CW.rseq ?_
    refine WL.op (by decide) (R.build (parts := []) (vals := []) rfl (fun w => build57_0 w)) ?_
    refine WL.eff rfl (OP.storeR (r := ⟨[], 0, 0, zero16, [], []⟩) rfl rfl rfl rfl hB2 ?_)
    intro w11 hc11 hs11 hB2
    have hC := hC.then hc11 (fun k hk e => by omega)
    have hR := hc11.at hR (by omega)
    refine WL.next ?_
    refine CW.ret ?_
    refine EW.thenRet ?_
    exact EW.retC (.inl rfl) rfl rfl (cs := Rec.cells ⟨[], 0, 0, zero16, [], []⟩) Tryd.underlying57 rfl sz57 (fun j u hj => cell_at hB2 (by rw [List.getElem?_toArray]; exact hj)) ⟨_, _, true, rfl, rfl, hR, hC, by rw [chain_bad h1 e2 e3 e4 e5 hgd]; rfl, (fun h => by cases h), ⟨by simp, by simp, by simp⟩⟩
  · skip
    obtain ⟨rfl, hgd⟩ := hgd
    refine CW.draw (fun w => RSt w rb A m c a5 false) (by kernel_rfl) ?_
    refine AH.take 0 rfl (by kernel_rfl) (by kernel_rfl) (by kernel_rfl) (fun _ _ _ _ h => h) hR (by decide) (fun w hS => R.move rfl) ?_
    refine AH.take 1 rfl (by kernel_rfl) (by kernel_rfl) (by kernel_rfl) (fun _ _ _ _ h => h) hR (by decide) (fun w hS => R.nilCheck rfl) ?_
    refine AH.take 2 rfl (by kernel_rfl) (by kernel_rfl) (by kernel_rfl) (fun _ _ _ _ h => h) hR (by decide) (fun w hS => FA100_2 rfl) ?_
    refine AH.take 3 rfl (by kernel_rfl) (by kernel_rfl) (by kernel_rfl) (fun _ _ _ _ h => h) hR (by decide) (fun w hS => R.load Tryd.underlying4 rfl rfl (cell_at hS rfl)) ?_
    refine AH.take 4 rfl (by kernel_rfl) (by kernel_rfl) (by kernel_rfl) (fun _ _ _ _ h => h) hR (by decide) (fun w hS => R.move rfl) ?_
    refine AH.takeG 5 rfl (by kernel_rfl) (by kernel_rfl) (by kernel_rfl) (fun _ _ _ _ h => h) hR (by decide) rfl rfl rfl (fun w hS => R.move rfl) ?_
    refine AH.takeG 6 rfl (by kernel_rfl) (by kernel_rfl) (by kernel_rfl) (fun _ _ _ _ h => h) hR (by decide) rfl rfl rfl (fun w hS => R.neq rfl rfl (c := true) (decide_eq_true (by omega))) ?_
    refine AH.take 7 rfl (by kernel_rfl) (by kernel_rfl) (by kernel_rfl) (fun _ _ _ _ h => h) hR (by decide) (fun w hS => R.pickF rfl rfl) ?_
    refine AH.take 8 rfl (by kernel_rfl) (by kernel_rfl) (by kernel_rfl) (fun _ _ _ _ h => h) hR (by decide) (fun w hS => R.move rfl) ?_
    refine AH.pass 9 rfl (by kernel_rfl) (by kernel_rfl) (by kernel_rfl) (fun _ _ _ _ h => h) hR (by decide) rfl rfl rfl ?_
    refine AH.pass 10 rfl (by kernel_rfl) (by kernel_rfl) (by kernel_rfl) (fun _ _ _ _ h => h) hR (by decide) rfl rfl rfl ?_
    refine AH.pass 11 rfl (by kernel_rfl) (by kernel_rfl) (by kernel_rfl) (fun _ _ _ _ h => h) hR (by decide) rfl rfl rfl ?_
    refine AH.pass 12 rfl (by kernel_rfl) (by kernel_rfl) (by kernel_rfl) (fun _ _ _ _ h => h) hR (by decide) rfl rfl rfl ?_
    refine AH.pass 13 rfl (by kernel_rfl) (by kernel_rfl) (by kernel_rfl) (fun _ _ _ _ h => h) hR (by decide) rfl rfl rfl ?_
    refine AH.pass 14 rfl (by kernel_rfl) (by kernel_rfl) (by kernel_rfl) (fun _ _ _ _ h => h) hR (by decide) rfl rfl rfl ?_
    refine AH.pass 15 rfl (by kernel_rfl) (by kernel_rfl) (by kernel_rfl) (fun _ _ _ _ h => h) hR (by decide) rfl rfl rfl ?_
    refine AH.pass 16 rfl (by kernel_rfl) (by kernel_rfl) (by kernel_rfl) (fun _ _ _ _ h => h) hR (by decide) rfl rfl rfl ?_
    refine AH.pass 17 rfl (by kernel_rfl) (by kernel_rfl) (by kernel_rfl) (fun _ _ _ _ h => h) hR (by decide) rfl rfl rfl ?_
    refine AH.pass 18 rfl (by kernel_rfl) (by kernel_rfl) (by kernel_rfl) (fun _ _ _ _ h => h) hR (by decide) rfl rfl rfl ?_
    refine AH.pass 19 rfl (by kernel_rfl) (by kernel_rfl) (by kernel_rfl) (fun _ _ _ _ h => h) hR (by decide) rfl rfl rfl ?_
    refine AH.pass 20 rfl (by kernel_rfl) (by kernel_rfl) (by kernel_rfl) (fun _ _ _ _ h => h) hR (by decide) rfl rfl rfl ?_
    refine AH.take 21 rfl (by kernel_rfl) (by kernel_rfl) (by kernel_rfl) (fun _ _ _ _ h => h) hR (by decide) (fun w hS => R.pickT rfl rfl) ?_
    refine AH.done (by kernel_rfl) ?_
    have hC := hC.trans (Chg.drew _ _)
    have hS := hS.kept (Chg.drew (fun _ => False) _) (fun _ _ _ h => h)
    have hG := hG.kept (Chg.drew (fun _ => False) _) (fun h => h)
    have hsz := Nat.le_trans hsz (Chg.drew (fun _ => False) _).size
    replace hgd : (false = true ∨ (false = false ∧ v3 ≠ 1) ∨ (false = false ∧ bs.length < a5 + v5)) := .inr (.inl ⟨rfl, hgd⟩)
    refine EW.next ?_
    refine CW.condT rfl ?_
    refine CW.rseq ?_
    refine WL.op (by decide) (R.move rfl) ?_
    refine WL.op (by decide) (R.nilCheck rfl) ?_
    refine WL.op (by decide) (FA100_2 rfl) ?_
    refine WL.eff rfl (OP.store1 sz4 rfl rfl rfl rfl hR (Nat.le_of_ble_eq_true rfl) rfl ?_)
    intro w10 hcs _ hR
    have hC := hC.trans hcs
    have hS := hS.kept hcs (fun g o h => (hg g o h).1)
    have hG := hG.kept hcs (by omega)
    have hsz := Nat.le_trans hsz hcs.size
    have hB2 := hcs.at hB2 (by omega)
    have hB3 := hcs.at hB3 (by omega)
    refine WL.next ?_
    refine CW.rseq ?_
    refine WL.op (by decide) (R.build (parts := []) (vals := []) rfl (fun w => build57_0 w)) ?_
    refine WL.eff rfl (OP.storeR (r := ⟨[], 0, 0, zero16, [], []⟩) rfl rfl rfl rfl hB2 ?_)
    intro w11 hc11 hs11 hB2
    have hC := hC.then hc11 (fun k hk e => by omega)
    have hR := hc11.at hR (by omega)
    refine WL.next ?_
    refine CW.ret ?_
    refine EW.thenRet ?_
    exact EW.retC (.inl rfl) rfl rfl (cs := Rec.cells ⟨[], 0, 0, zero16, [], []⟩) Tryd.underlying57 rfl sz57 (fun j u hj => cell_at hB2 (by rw [List.getElem?_toArray]; exact hj)) ⟨_, _, true, rfl, rfl, hR, hC, by rw [chain_bad h1 e2 e3 e4 e5 hgd]; rfl, (fun h => by cases h), ⟨by simp, by simp, by simp⟩⟩
  · skip
    obtain ⟨rfl, hgv, hgd⟩ := hgd
    have hin5 := hin9 rfl
    have hv5 := numR_lt2 e5
    refine CW.draw (fun w => RSt w rb A m c a5 false) (by kernel_rfl) ?_
    refine AH.take 0 rfl (by kernel_rfl) (by kernel_rfl) (by kernel_rfl) (fun _ _ _ _ h => h) hR (by decide) (fun w hS => R.move rfl) ?_
    refine AH.take 1 rfl (by kernel_rfl) (by kernel_rfl) (by kernel_rfl) (fun _ _ _ _ h => h) hR (by decide) (fun w hS => R.nilCheck rfl) ?_
    refine AH.take 2 rfl (by kernel_rfl) (by kernel_rfl) (by kernel_rfl) (fun _ _ _ _ h => h) hR (by decide) (fun w hS => FA100_2 rfl) ?_
    refine AH.take 3 rfl (by kernel_rfl) (by kernel_rfl) (by kernel_rfl) (fun _ _ _ _ h => h) hR (by decide) (fun w hS => R.load Tryd.underlying4 rfl rfl (cell_at hS rfl)) ?_
    refine AH.take 4 rfl (by kernel_rfl) (by kernel_rfl) (by kernel_rfl) (fun _ _ _ _ h => h) hR (by decide) (fun w hS => R.move rfl) ?_
    refine AH.takeG 5 rfl (by kernel_rfl) (by kernel_rfl) (by kernel_rfl) (fun _ _ _ _ h => h) hR (by decide) rfl rfl rfl (fun w hS => R.move rfl) ?_
    refine AH.takeG 6 rfl (by kernel_rfl) (by kernel_rfl) (by kernel_rfl) (fun _ _ _ _ h => h) hR (by decide) rfl rfl rfl (fun w hS => R.neq rfl rfl (c := false) (decide_eq_false (by omega))) ?_
    refine AH.take 7 rfl (by kernel_rfl) (by kernel_rfl) (by kernel_rfl) (fun _ _ _ _ h => h) hR (by decide) (fun w hS => R.pickF rfl rfl) ?_
    refine AH.take 8 rfl (by kernel_rfl) (by kernel_rfl) (by kernel_rfl) (fun _ _ _ _ h => h) hR (by decide) (fun w hS => R.move rfl) ?_
    refine AH.takeG 9 rfl (by kernel_rfl) (by kernel_rfl) (by kernel_rfl) (fun _ _ _ _ h => h) hR (by decide) rfl rfl rfl (fun w hS => R.move rfl) ?_
    refine AH.takeG 10 rfl (by kernel_rfl) (by kernel_rfl) (by kernel_rfl) (fun _ _ _ _ h => h) hR (by decide) rfl rfl rfl (fun w hS => R.nilCheck rfl) ?_
    refine AH.takeG 11 rfl (by kernel_rfl) (by kernel_rfl) (by kernel_rfl) (fun _ _ _ _ h => h) hR (by decide) rfl rfl rfl (fun w hS => FA100_1 rfl) ?_
    refine AH.takeG 12 rfl (by kernel_rfl) (by kernel_rfl) (by kernel_rfl) (fun _ _ _ _ h => h) hR (by decide) rfl rfl rfl (fun w hS => R.load Tryd.underlying3 rfl rfl (cell_at hS rfl)) ?_
    refine AH.takeG 13 rfl (by kernel_rfl) (by kernel_rfl) (by kernel_rfl) (fun _ _ _ _ h => h) hR (by decide) rfl rfl rfl (fun w hS => R.move rfl) ?_
    refine AH.takeG 14 rfl (by kernel_rfl) (by kernel_rfl) (by kernel_rfl) (fun _ _ _ _ h => h) hR (by decide) rfl rfl rfl (fun w hS => R.add rfl rfl (by omega)) ?_
    refine AH.takeG 15 rfl (by kernel_rfl) (by kernel_rfl) (by kernel_rfl) (fun _ _ _ _ h => h) hR (by decide) rfl rfl rfl (fun w hS => R.move rfl) ?_
    refine AH.takeG 16 rfl (by kernel_rfl) (by kernel_rfl) (by kernel_rfl) (fun _ _ _ _ h => h) hR (by decide) rfl rfl rfl (fun w hS => R.nilCheck rfl) ?_
    refine AH.takeG 17 rfl (by kernel_rfl) (by kernel_rfl) (by kernel_rfl) (fun _ _ _ _ h => h) hR (by decide) rfl rfl rfl (fun w hS => FA100_0 rfl) ?_
    refine AH.takeG 18 rfl (by kernel_rfl) (by kernel_rfl) (by kernel_rfl) (fun _ _ _ _ h => h) hR (by decide) rfl rfl rfl (fun w hS => R.load Tryd.underlying36 rfl rfl (cell_at hS rfl)) ?_
    refine AH.takeG 19 rfl (by kernel_rfl) (by kernel_rfl) (by kernel_rfl) (fun _ _ _ _ h => h) hR (by decide) rfl rfl rfl (fun w hS => R.lenSlice rfl Tryd.underlying36 rfl) ?_
    refine AH.takeG 20 rfl (by kernel_rfl) (by kernel_rfl) (by kernel_rfl) (fun _ _ _ _ h => h) hR (by decide) rfl rfl rfl (fun w hS => R.gtr rfl rfl (c := true) (decide_eq_true (by omega))) ?_
    refine AH.take 21 rfl (by kernel_rfl) (by kernel_rfl) (by kernel_rfl) (fun _ _ _ _ h => h) hR (by decide) (fun w hS => R.pickF rfl rfl) ?_
    refine AH.done (by kernel_rfl) ?_
    have hC := hC.trans (Chg.drew _ _)
    have hS := hS.kept (Chg.drew (fun _ => False) _) (fun _ _ _ h => h)
    have hG := hG.kept (Chg.drew (fun _ => False) _) (fun h => h)
    have hsz := Nat.le_trans hsz (Chg.drew (fun _ => False) _).size
    replace hgd : (false = true ∨ (false = false ∧ v3 ≠ 1) ∨ (false = false ∧ bs.length < a5 + v5)) := .inr (.inr ⟨rfl, hgd⟩)
    refine EW.next ?_
    refine CW.condT rfl ?_
    refine CW.rseq ?_
    refine WL.op (by decide) (R.move rfl) ?_
    refine WL.op (by decide) (R.nilCheck rfl) ?_
    refine WL.op (by decide) (FA100_2 rfl) ?_
    refine WL.eff rfl (OP.store1 sz4 rfl rfl rfl rfl hR (Nat.le_of_ble_eq_true rfl) rfl ?_)
    intro w10 hcs _ hR
    have hC := hC.trans hcs
    have hS := hS.kept hcs (fun g o h => (hg g o h).1)
    have hG := hG.kept hcs (by omega)
    have hsz := Nat.le_trans hsz hcs.size
    have hB2 := hcs.at hB2 (by omega)
    have hB3 := hcs.at hB3 (by omega)
    refine WL.next ?_
    refine CW.rseq ?_
    refine WL.op (by decide) (R.build (parts := []) (vals := []) rfl (fun w => build57_0 w)) ?_
    refine WL.eff rfl (OP.storeR (r := ⟨[], 0, 0, zero16, [], []⟩) rfl rfl rfl rfl hB2 ?_)
    intro w11 hc11 hs11 hB2
    have hC := hC.then hc11 (fun k hk e => by omega)
    have hR := hc11.at hR (by omega)
    refine WL.next ?_
    refine CW.ret ?_
    refine EW.thenRet ?_
    exact EW.retC (.inl rfl) rfl rfl (cs := Rec.cells ⟨[], 0, 0, zero16, [], []⟩) Tryd.underlying57 rfl sz57 (fun j u hj => cell_at hB2 (by rw [List.getElem?_toArray]; exact hj)) ⟨_, _, true, rfl, rfl, hR, hC, by rw [chain_bad h1 e2 e3 e4 e5 hgd]; rfl, (fun h => by cases h), ⟨by simp, by simp, by simp⟩⟩
  · skip
    obtain ⟨rfl, hgv, hgd⟩ := hgd
    have hin5 := hin9 rfl
    have hv5 := numR_lt2 e5
    refine CW.draw (fun w => RSt w rb A m c a5 false) (by kernel_rfl) ?_
    refine AH.take 0 rfl (by kernel_rfl) (by kernel_rfl) (by kernel_rfl) (fun _ _ _ _ h => h) hR (by decide) (fun w hS => R.move rfl) ?_
    refine AH.take 1 rfl (by kernel_rfl) (by kernel_rfl) (by kernel_rfl) (fun _ _ _ _ h => h) hR (by decide) (fun w hS => R.nilCheck rfl) ?_
    refine AH.take 2 rfl (by kernel_rfl) (by kernel_rfl) (by kernel_rfl) (fun _ _ _ _ h => h) hR (by decide) (fun w hS => FA100_2 rfl) ?_
    refine AH.take 3 rfl (by kernel_rfl) (by kernel_rfl) (by kernel_rfl) (fun _ _ _ _ h => h) hR (by decide) (fun w hS => R.load Tryd.underlying4 rfl rfl (cell_at hS rfl)) ?_
    refine AH.take 4 rfl (by kernel_rfl) (by kernel_rfl) (by kernel_rfl) (fun _ _ _ _ h => h) hR (by decide) (fun w hS => R.move rfl) ?_
    refine AH.takeG 5 rfl (by kernel_rfl) (by kernel_rfl) (by kernel_rfl) (fun _ _ _ _ h => h) hR (by decide) rfl rfl rfl (fun w hS => R.move rfl) ?_
    refine AH.takeG 6 rfl (by kernel_rfl) (by kernel_rfl) (by kernel_rfl) (fun _ _ _ _ h => h) hR (by decide) rfl rfl rfl (fun w hS => R.neq rfl rfl (c := false) (decide_eq_false (by omega))) ?_
    refine AH.take 7 rfl (by kernel_rfl) (by kernel_rfl) (by kernel_rfl) (fun _ _ _ _ h => h) hR (by decide) (fun w hS => R.pickF rfl rfl) ?_
    refine AH.take 8 rfl (by kernel_rfl) (by kernel_rfl) (by kernel_rfl) (fun _ _ _ _ h => h) hR (by decide) (fun w hS => R.move rfl) ?_
    refine AH.takeG 9 rfl (by kernel_rfl) (by kernel_rfl) (by kernel_rfl) (fun _ _ _ _ h => h) hR (by decide) rfl rfl rfl (fun w hS => R.move rfl) ?_
    refine AH.takeG 10 rfl (by kernel_rfl) (by kernel_rfl) (by kernel_rfl) (fun _ _ _ _ h => h) hR (by decide) rfl rfl rfl (fun w hS => R.nilCheck rfl) ?_
    refine AH.takeG 11 rfl (by kernel_rfl) (by kernel_rfl) (by kernel_rfl) (fun _ _ _ _ h => h) hR (by decide) rfl rfl rfl (fun w hS => FA100_1 rfl) ?_
    refine AH.takeG 12 rfl (by kernel_rfl) (by kernel_rfl) (by kernel_rfl) (fun _ _ _ _ h => h) hR (by decide) rfl rfl rfl (fun w hS => R.load Tryd.underlying3 rfl rfl (cell_at hS rfl)) ?_
    refine AH.takeG 13 rfl (by kernel_rfl) (by kernel_rfl) (by kernel_rfl) (fun _ _ _ _ h => h) hR (by decide) rfl rfl rfl (fun w hS => R.move rfl) ?_
    refine AH.takeG 14 rfl (by kernel_rfl) (by kernel_rfl) (by kernel_rfl) (fun _ _ _ _ h => h) hR (by decide) rfl rfl rfl (fun w hS => R.add rfl rfl (by omega)) ?_
    refine AH.takeG 15 rfl (by kernel_rfl) (by kernel_rfl) (by kernel_rfl) (fun _ _ _ _ h => h) hR (by decide) rfl rfl rfl (fun w hS => R.move rfl) ?_
    refine AH.takeG 16 rfl (by kernel_rfl) (by kernel_rfl) (by kernel_rfl) (fun _ _ _ _ h => h) hR (by decide) rfl rfl rfl (fun w hS => R.nilCheck rfl) ?_
    refine AH.takeG 17 rfl (by kernel_rfl) (by kernel_rfl) (by kernel_rfl) (fun _ _ _ _ h => h) hR (by decide) rfl rfl rfl (fun w hS => FA100_0 rfl) ?_
    refine AH.takeG 18 rfl (by kernel_rfl) (by kernel_rfl) (by kernel_rfl) (fun _ _ _ _ h => h) hR (by decide) rfl rfl rfl (fun w hS => R.load Tryd.underlying36 rfl rfl (cell_at hS rfl)) ?_
    refine AH.takeG 19 rfl (by kernel_rfl) (by kernel_rfl) (by kernel_rfl) (fun _ _ _ _ h => h) hR (by decide) rfl rfl rfl (fun w hS => R.lenSlice rfl Tryd.underlying36 rfl) ?_
    refine AH.takeG 20 rfl (by kernel_rfl) (by kernel_rfl) (by kernel_rfl) (fun _ _ _ _ h => h) hR (by decide) rfl rfl rfl (fun w hS => R.gtr rfl rfl (c := false) (decide_eq_false (by omega))) ?_
    refine AH.take 21 rfl (by kernel_rfl) (by kernel_rfl) (by kernel_rfl) (fun _ _ _ _ h => h) hR (by decide) (fun w hS => R.pickF rfl rfl) ?_
    refine AH.done (by kernel_rfl) ?_
    have hC := hC.trans (Chg.drew _ _)
    have hS := hS.kept (Chg.drew (fun _ => False) _) (fun _ _ _ h => h)
    have hG := hG.kept (Chg.drew (fun _ => False) _) (fun h => h)
    have hsz := Nat.le_trans hsz (Chg.drew (fun _ => False) _).size
    have hbody := chain_body h1 e2 e3 e4 e5 hgv hgd
    have ha5 := (chain_ok h1 e2 e3 e4 e5 rfl).2.2.2.1
    obtain ⟨g, o, rfl, hcell⟩ := hS.cells (by omega)
    have hgg := hg g o rfl
    have hcap := hS.cap
    refine EW.next ?_
    refine CW.condF rfl ?_
    refine CW.skip ?_
    refine EW.next ?_
    refine CW.rseq ?_
    refine WL.op (by decide) (R.move rfl) ?_
    refine WL.op (by decide) (R.nilCheck rfl) ?_
    refine WL.op (by decide) (FA100_1 rfl) ?_
    refine WL.op (by decide) (R.load Tryd.underlying3 rfl rfl (cell_at hR rfl)) ?_
    refine WL.op (by decide) (R.move rfl) ?_
    refine WL.op (by decide) (R.add rfl rfl (by omega)) ?_
    refine WL.op (by decide) (R.assign rfl) ?_
    refine WL.next ?_
    refine CW.seq ?_
    refine CW.draw (fun w => RSt w rb (some ⟨g, o, none⟩) m c a5 false) (by kernel_rfl) ?_
    refine AH.take 0 rfl (by kernel_rfl) (by kernel_rfl) (by kernel_rfl) (fun _ _ _ _ h => h) hR (by decide) (fun w hS => R.move rfl) ?_
    refine AH.take 1 rfl (by kernel_rfl) (by kernel_rfl) (by kernel_rfl) (fun _ _ _ _ h => h) hR (by decide) (fun w hS => R.nilCheck rfl) ?_
    refine AH.take 2 rfl (by kernel_rfl) (by kernel_rfl) (by kernel_rfl) (fun _ _ _ _ h => h) hR (by decide) (fun w hS => FA100_0 rfl) ?_
    refine AH.take 3 rfl (by kernel_rfl) (by kernel_rfl) (by kernel_rfl) (fun _ _ _ _ h => h) hR (by decide) (fun w hS => R.load Tryd.underlying36 rfl rfl (cell_at hS rfl)) ?_
    refine AH.take 4 rfl (by kernel_rfl) (by kernel_rfl) (by kernel_rfl) (fun _ _ _ _ h => h) hR (by decide) (fun w hS => R.move rfl) ?_
    refine AH.take 5 rfl (by kernel_rfl) (by kernel_rfl) (by kernel_rfl) (fun _ _ _ _ h => h) hR (by decide) (fun w hS => R.nilCheck rfl) ?_
    refine AH.take 6 rfl (by kernel_rfl) (by kernel_rfl) (by kernel_rfl) (fun _ _ _ _ h => h) hR (by decide) (fun w hS => FA100_1 rfl) ?_
    refine AH.take 7 rfl (by kernel_rfl) (by kernel_rfl) (by kernel_rfl) (fun _ _ _ _ h => h) hR (by decide) (fun w hS => R.load Tryd.underlying3 rfl rfl (cell_at hS rfl)) ?_
    refine AH.take 8 rfl (by kernel_rfl) (by kernel_rfl) (by kernel_rfl) (fun _ _ _ _ h => h) hR (by decide) (fun w hS => R.move rfl) ?_
    refine AH.take 9 rfl (by kernel_rfl) (by kernel_rfl) (by kernel_rfl) (fun _ _ _ _ h => h) hR (by decide) (fun w hS => R.sliceSl Tryd.underlying36 sz5 rfl rfl rfl rfl (hi := a5 + v5) (by omega) (Nat.le_add_right _ _) (by omega)) ?_
    refine AH.take 10 rfl (by kernel_rfl) (by kernel_rfl) (by kernel_rfl) (fun _ _ _ _ h => h) hR (by decide) (fun w hS => R.assign rfl) ?_
    refine AH.done (by kernel_rfl) ?_
    obtain ⟨dat, hdat0⟩ : ∃ dat, dat = (bs.drop a5).take v5 := ⟨_, rfl⟩
    have hdl : dat.length = v5 := by rw [hdat0, List.length_take, List.length_drop]; omega
    obtain ⟨g2, o2, hPe, hg2, hdat⟩ := data_at (c := c) (v := v5) hcell (by omega) (by omega)
    rw [← hdat0] at hdat
    rw [hPe, Nat.add_sub_cancel_left]
    obtain rfl := hg2
    have hC := hC.trans (Chg.drew _ _)
    have hS := hS.kept (Chg.drew (fun _ => False) _) (fun _ _ _ h => h)
    have hG := hG.kept (Chg.drew (fun _ => False) _) (fun h => h)
    have hsz := Nat.le_trans hsz (Chg.drew (fun _ => False) _).size
    refine EW.next ?_
    refine CW.cut (fun l wr => ∃ (r : Rec) (a' : Nat) (b' : Bool), l = [(0, .pointer (some ⟨rb, 0, none⟩)), (2, .pointer (some ⟨w.heap.size, 0, none⟩)), (3, .pointer (some ⟨w3.heap.size, 0, none⟩)), (6, .int .i64 ((a5 : Int) + (v5 : Int)))] ∧ r.addr.length = 16 ∧ r.small ∧ RSt wr rb (some ⟨g, o, none⟩) m c a' b' ∧ Chg (fun k => k = rb) w wr ∧ Glob wr ∧ w4.heap.size ≤ wr.heap.size ∧ wr.heap[w.heap.size]? = some (.cells (Rec.cells ⟨[], 0, 0, zero16, [], []⟩).toArray 57 (0, 0)) ∧ wr.heap[w3.heap.size]? = some (.cells r.cells.toArray 57 (0, 0)) ∧ BodyRes (recBody bs s v2 (ttlOf v4) a5 v5) r b') ?_ ?_
    ·
      refine CW.block ?_
      refine CW.rseq ?_
      refine WL.op (by decide) (FA57_1 rfl) ?_
      refine WL.op (by decide) (R.load (v := .int .i64 (v2 : Int)) Tryd.underlying3 rfl rfl (cell_at hB3 (Rec.at1 _))) ?_
      refine WL.eqlS (by decide) rfl rfl (fun h1 => ?_) (fun h1 => ?_)
      · skip
        refine WL.op (by decide) (R.move rfl) ?_
        refine WL.gop (by decide) rfl rfl rfl (R.move rfl) ?_
        refine WL.gsplit _ (by decide) rfl rfl rfl (R.eqlD rfl rfl) (fun h2 => ?_) (fun h2 => ?_)
        · skip
          refine WL.op (by decide) (R.pickT rfl rfl) ?_
          refine WL.op (by decide) (R.assign rfl) ?_
          refine WL.next ?_
          refine CW.condT rfl ?_
          refine CW.rseq ?_
          refine WL.op (by decide) (R.loadAgg1 (cs := mappedL.map u8v) Tryd.underlying108 rfl sz108 rfl (fun j u hj => by rw [Nat.zero_add]; exact hG j u hj)) ?_
          refine WL.eff rfl (OP.alloc1 (.agg ((List.replicate 12 (0 : UInt8)).map u8v).toArray) (by decide) (by kernel_rfl) ?_)
          intro w12 hc12 hs12 hB8
          have hC := hC.trans (hc12.mono (fun _ _ h => h.elim))
          have hS := hS.kept hc12 (fun _ _ _ h => h)
          have hG := hG.kept hc12 (fun h => h)
          have hR := hc12.at hR (fun h => h)
          have hB2 := hc12.at hB2 (fun h => h)
          have hB3 := hc12.at hB3 (fun h => h)
          have hdat : ∀ (j : Nat) (b : UInt8), dat[j]? = some b → w12.cell? ⟨g, o2 + j, none⟩ = some (u8v b) := fun j b hj => cell_chg hc12 (hdat j b hj) (fun h => h)
          have hsz12 := hsz
          have hsz := Nat.le_trans hsz hc12.size
          refine WL.eff rfl (OP.storeAgg (cells := (mappedL.map u8v).toArray) inf108.choose_spec.1 (by rw [inf108.choose_spec.2]; rfl) rfl rfl (u8v_all _) hB8 rfl ?_)
          intro w13 hc13 hs13 hB8
          have hC := hC.then hc13 (fun k hk e => by omega)
          have hS := hS.kept hc13 (fun g o h e => by have := hg g o h; omega)
          have hG := hG.kept hc13 (by omega)
          have hR := hc13.at hR (by omega)
          have hB2 := hc13.at hB2 (by omega)
          have hB3 := hc13.at hB3 (by omega)
          have hdat : ∀ (j : Nat) (b : UInt8), dat[j]? = some b → w13.cell? ⟨g, o2 + j, none⟩ = some (u8v b) := fun j b hj => cell_chg hc13 (hdat j b hj) (by omega)
          have hsz := Nat.le_trans hsz hc13.size
          refine WL.next ?_
          refine CW.draw (fun _ => True) (by kernel_rfl) ?_
          have hC := hC.trans (Chg.drew _ _)
          have hS := hS.kept (Chg.drew (fun _ => False) _) (fun _ _ _ h => h)
          have hG := hG.kept (Chg.drew (fun _ => False) _) (fun h => h)
          have hsz := Nat.le_trans hsz (Chg.drew (fun _ => False) _).size
          refine AH.take 0 rfl (by kernel_rfl) (by kernel_rfl) (by kernel_rfl) (fun _ _ _ _ h => h) trivial (by decide) (fun w hS => FA57_3 rfl) ?_
          refine AH.take 1 rfl (by kernel_rfl) (by kernel_rfl) (by kernel_rfl) (fun _ _ _ _ h => h) trivial (by decide) (fun w hS => R.sliceArr (lv := none) (hv := none) (l1 := 0) (h1 := 16) Tryd.underlying27 sz5 rfl rfl rfl (by kernel_rfl) (by decide)) ?_
          refine AH.take 2 rfl (by kernel_rfl) (by kernel_rfl) (by kernel_rfl) (fun _ _ _ _ h => h) trivial (by decide) (fun w hS => R.sliceArrM (h1 := 12) (c1 := 12) Tryd.underlying108 sz5 rfl rfl rfl (by kernel_rfl) (by decide)) ?_
          refine AH.take 3 rfl (by kernel_rfl) (by kernel_rfl) (by kernel_rfl) (fun _ _ _ _ h => h) trivial (by decide) (fun w hS => R.move rfl) ?_
          refine AH.eff 4 (by kernel_rfl) rfl rfl (OP.appendFull (olds := mappedL) (news := dat) (by decide) rfl rfl (fun j u hj => cell_at hB8 (by rw [List.getElem?_toArray, Nat.zero_add]; exact hj)) hdl (by omega) (cells_at hdat) (by rw [hdl]; simp [mappedL]; omega) ?_)
          intro v6 w14 hBf hc14
          refine ⟨trivial, ?_⟩
          have hl16 : (mappedL ++ dat).length = 16 := by rw [List.length_append, hdl]; simp [mappedL]; omega
          obtain ⟨g3, cap3, rfl, _, _, _, hcell3⟩ := hBf.open (by intro h; rw [h] at hl16; cases hl16)
          have hC := hC.trans (hc14.mono (fun _ _ h => h.elim))
          have hG := hG.kept hc14 (fun h => h)
          have hR := hc14.at hR (fun h => h)
          have hB2 := hc14.at hB2 (fun h => h)
          have hB3 := hc14.at hB3 (fun h => h)
          have hsz := Nat.le_trans hsz hc14.size
          refine AH.eff 5 (by kernel_rfl) rfl rfl (OP.copy (cs := mappedL ++ dat) (by decide) rfl rfl hB3 (by rw [hl16]; rfl) (cells_at0 hcell3) (by rw [List.size_toArray, Rec.length rfl, hl16]; decide) ?_)
          intro w15 hcp _ hB3n
          have hB3 := hB3n
          rw [show (mappedL ++ dat).length = 16 from hl16] at hB3
          rw [show (0 + 3 + 0 : Nat) = 3 from rfl, Rec.setAddr rfl (hl16)] at hB3
          have hC := hC.then hcp (fun k hk e => by omega)
          have hG := hG.kept hcp (by omega)
          have hR := hcp.at hR (by omega)
          have hB2 := hcp.at hB2 (by omega)
          have hsz := Nat.le_trans hsz hcp.size
          refine ⟨trivial, ?_⟩
          refine AH.done (by kernel_rfl) ?_
          refine EW.inNormal ?_
          exact EW.cutK [0, 2, 3, 6] ⟨_, a5, false, rfl, by show (mappedL ++ dat).length = 16; rw [List.length_append, hdl]; simp [mappedL]; omega, ⟨hsl, by simp, by simp⟩, hR, hC, hG, hsz, hB2, hB3, by rw [body_a (bs := bs) (nm := s) (ty := v2) (a := a5) (n := v5) (ttl := ttlOf v4) (by omega) (by omega)]; exact ⟨by rw [hdat0]; rfl, rfl⟩⟩
        · skip
          refine WL.op (by decide) (R.pickT rfl rfl) ?_
          refine WL.op (by decide) (R.assign rfl) ?_
          refine WL.next ?_
          refine CW.condF rfl ?_
          refine CW.rseq ?_
          refine WL.op (by decide) (FA57_1 rfl) ?_
          refine WL.op (by decide) (R.load (v := .int .i64 (v2 : Int)) Tryd.underlying3 rfl rfl (cell_at hB3 (Rec.at1 _))) ?_
          refine WL.eqlS (by decide) rfl rfl (fun h3 => ?_) (fun h3 => ?_)
          · skip
            refine WL.op (by decide) (R.move rfl) ?_
            refine WL.gop (by decide) rfl rfl rfl (R.move rfl) ?_
            refine WL.gsplit _ (by decide) rfl rfl rfl (R.eqlD rfl rfl) (fun h4 => ?_) (fun h4 => ?_)
            · skip
              refine WL.op (by decide) (R.pickT rfl rfl) ?_
              refine WL.op (by decide) (R.assign rfl) ?_
              refine WL.next ?_
              refine CW.condT rfl ?_
              refine CW.region ?_
              refine WL.op (by decide) (FA57_3 rfl) ?_
              refine WL.op (by decide) (R.sliceArr (lv := none) (hv := none) (l1 := 0) (h1 := 16) Tryd.underlying27 sz5 rfl rfl rfl (by kernel_rfl) (by decide)) ?_
              refine WL.op (by decide) (R.move rfl) ?_
              refine WL.eff rfl (OP.copy (cs := dat) (by decide) rfl rfl hB3 (by rw [(show dat.length = 16 by omega)]; exact (Nat.min_eq_left (by omega) |>.trans (by omega)).symm) (cells_at hdat) (by rw [List.size_toArray, Rec.length rfl, (show dat.length = 16 by omega)]; decide) ?_)
              intro w14 hcp _ hB3n
              have hB3 := hB3n
              rw [show (dat).length = 16 from (show dat.length = 16 by omega)] at hB3
              rw [show (0 + 3 + 0 : Nat) = 3 from rfl, Rec.setAddr rfl ((show dat.length = 16 by omega))] at hB3
              have hC := hC.then hcp (fun k hk e => by omega)
              have hG := hG.kept hcp (by omega)
              have hR := hcp.at hR (by omega)
              have hB2 := hcp.at hB2 (by omega)
              have hsz := Nat.le_trans hsz hcp.size
              refine WL.nil ?_
              refine EW.inNormal ?_
              exact EW.cutK [0, 2, 3, 6] ⟨_, a5, false, rfl, by show dat.length = 16; omega, ⟨hsl, by simp, by simp⟩, hR, hC, hG, hsz, hB2, hB3, by rw [body_aaaa (bs := bs) (nm := s) (ty := v2) (a := a5) (n := v5) (ttl := ttlOf v4) (by omega) (by omega)]; exact ⟨by rw [hdat0]; rfl, rfl⟩⟩
            · skip
              refine WL.op (by decide) (R.pickT rfl rfl) ?_
              refine WL.op (by decide) (R.assign rfl) ?_
              refine WL.next ?_
              refine CW.condF rfl ?_
              refine CW.rseq ?_
              refine WL.op (by decide) (FA57_1 rfl) ?_
              refine WL.op (by decide) (R.load (v := .int .i64 (v2 : Int)) Tryd.underlying3 rfl rfl (cell_at hB3 (Rec.at1 _))) ?_
              refine WL.eqlS (by decide) rfl rfl (fun h5 => ?_) (fun h5 => ?_)
              · skip
                refine WL.op (by decide) (R.move rfl) ?_
                refine WL.pass (by decide) rfl rfl rfl ?_
                refine WL.pass (by decide) rfl rfl rfl ?_
                refine WL.pass (by decide) rfl rfl rfl ?_
                refine WL.op (by decide) (R.pickT rfl rfl) ?_
                refine WL.op (by decide) (R.move rfl) ?_
                refine WL.pass (by decide) rfl rfl rfl ?_
                refine WL.pass (by decide) rfl rfl rfl ?_
                refine WL.pass (by decide) rfl rfl rfl ?_
                refine WL.op (by decide) (R.pickT rfl rfl) ?_
                refine WL.op (by decide) (R.assign rfl) ?_
                refine WL.next ?_
                refine CW.condT rfl ?_
                refine CW.rseq ?_
                refine WL.op (by decide) (R.move rfl) ?_
                refine WL.eff rfl (OP.call (by decide) Tryd.func46 (by kernel_rfl) (by kernel_rfl) rfl (rname_st rb _ m c bs a5 false _ hR hS (fun g o h => (hg g o h).1) hin9 hm) ?_)
                rintro ed w14 ⟨s2, a6, b6, rfl, hR, hc14, hn2, hs2l⟩
                refine ⟨_, rfl, ?_⟩
                have hC := hC.trans hc14
                have hS := hS.kept hc14 (fun g o h => (hg g o h).1)
                have hG := hG.kept hc14 (by omega)
                have hsz := Nat.le_trans hsz hc14.size
                have hB2 := hc14.at hB2 (by omega)
                have hB3 := hc14.at hB3 (by omega)
                refine WL.op (by decide) (FA57_4 rfl) ?_
                refine WL.eff rfl (OP.store1 sz9 rfl rfl rfl rfl hB3 (by rw [List.size_toArray, Rec.length rfl]; decide) rfl ?_)
                intro w15 hc15 hs15 hB3n
                have hB3 := hB3n
                rw [show (0 + 19 : Nat) = 19 from rfl, Rec.set19 rfl] at hB3
                have hC := hC.then hc15 (fun k hk e => by omega)
                have hG := hG.kept hc15 (by omega)
                have hS := hS.kept hc15 (fun g o h e => by have := hg g o h; omega)
                have hR := hc15.at hR (by omega)
                have hB2 := hc15.at hB2 (by omega)
                have hsz := Nat.le_trans hsz hc15.size
                refine WL.next ?_
                refine CW.rseq ?_
                refine WL.op (by decide) (R.move rfl) ?_
                refine WL.op (by decide) (R.nilCheck rfl) ?_
                refine WL.op (by decide) (FA100_1 rfl) ?_
                refine WL.op (by decide) (R.load Tryd.underlying3 rfl rfl (cell_at hR rfl)) ?_
                refine WL.op (by decide) (R.move rfl) ?_
                refine WL.neqS (by decide) rfl rfl (fun h6 => ?_) (fun h6 => ?_)
                · skip
                  refine WL.next ?_
                  refine CW.condT rfl ?_
                  refine CW.region ?_
                  refine WL.op (by decide) (R.move rfl) ?_
                  refine WL.op (by decide) (R.nilCheck rfl) ?_
                  refine WL.op (by decide) (FA100_2 rfl) ?_
                  refine WL.eff rfl (OP.store1 sz4 rfl rfl rfl rfl hR (Nat.le_of_ble_eq_true rfl) rfl ?_)
                  intro w16 hcs _ hR
                  have hC := hC.trans hcs
                  have hS := hS.kept hcs (fun g o h => (hg g o h).1)
                  have hG := hG.kept hcs (by omega)
                  have hsz := Nat.le_trans hsz hcs.size
                  have hB2 := hcs.at hB2 (by omega)
                  have hB3 := hcs.at hB3 (by omega)
                  refine WL.nil ?_
                  refine EW.inNormal ?_
                  exact EW.cutK [0, 2, 3, 6] ⟨_, a6, true, rfl, rfl, ⟨hsl, Nat.le_trans hs2l (by decide), by simp⟩, hR, hC, hG, hsz, hB2, hB3, by rw [body_far (bs := bs) (nm := s) (ty := v2) (a := a5) (n := v5) (ttl := ttlOf v4) (by omega) hn2 (by omega)]; rfl⟩
                · skip
                  refine WL.next ?_
                  refine CW.condF rfl ?_
                  refine CW.skip ?_
                  refine EW.inNormal ?_
                  exact EW.cutK [0, 2, 3, 6] ⟨_, a6, _, rfl, rfl, ⟨hsl, Nat.le_trans hs2l (by decide), by simp⟩, hR, hC, hG, hsz, hB2, hB3, body_near (bs := bs) (nm := s) (ty := v2) (a := a5) (n := v5) (ttl := ttlOf v4) (by omega) hn2 (by omega)⟩
              · skip
                refine WL.op (by decide) (R.move rfl) ?_
                refine WL.gop (by decide) rfl rfl rfl (FA57_1 rfl) ?_
                refine WL.gop (by decide) rfl rfl rfl (R.load (v := .int .i64 (v2 : Int)) Tryd.underlying3 rfl rfl (cell_at hB3 (Rec.at1 _))) ?_
                refine WL.gsplit _ (by decide) rfl rfl rfl (R.eqlD rfl rfl) (fun h7 => ?_) (fun h7 => ?_)
                · skip
                  refine WL.op (by decide) (R.pickF rfl rfl) ?_
                  refine WL.op (by decide) (R.move rfl) ?_
                  refine WL.pass (by decide) rfl rfl rfl ?_
                  refine WL.pass (by decide) rfl rfl rfl ?_
                  refine WL.pass (by decide) rfl rfl rfl ?_
                  refine WL.op (by decide) (R.pickT rfl rfl) ?_
                  refine WL.op (by decide) (R.assign rfl) ?_
                  refine WL.next ?_
                  refine CW.condT rfl ?_
                  refine CW.rseq ?_
                  refine WL.op (by decide) (R.move rfl) ?_
                  refine WL.eff rfl (OP.call (by decide) Tryd.func46 (by kernel_rfl) (by kernel_rfl) rfl (rname_st rb _ m c bs a5 false _ hR hS (fun g o h => (hg g o h).1) hin9 hm) ?_)
                  rintro ed w14 ⟨s2, a6, b6, rfl, hR, hc14, hn2, hs2l⟩
                  refine ⟨_, rfl, ?_⟩
                  have hC := hC.trans hc14
                  have hS := hS.kept hc14 (fun g o h => (hg g o h).1)
                  have hG := hG.kept hc14 (by omega)
                  have hsz := Nat.le_trans hsz hc14.size
                  have hB2 := hc14.at hB2 (by omega)
                  have hB3 := hc14.at hB3 (by omega)
                  refine WL.op (by decide) (FA57_4 rfl) ?_
                  refine WL.eff rfl (OP.store1 sz9 rfl rfl rfl rfl hB3 (by rw [List.size_toArray, Rec.length rfl]; decide) rfl ?_)
                  intro w15 hc15 hs15 hB3n
                  have hB3 := hB3n
                  rw [show (0 + 19 : Nat) = 19 from rfl, Rec.set19 rfl] at hB3
                  have hC := hC.then hc15 (fun k hk e => by omega)
                  have hG := hG.kept hc15 (by omega)
                  have hS := hS.kept hc15 (fun g o h e => by have := hg g o h; omega)
                  have hR := hc15.at hR (by omega)
                  have hB2 := hc15.at hB2 (by omega)
                  have hsz := Nat.le_trans hsz hc15.size
                  refine WL.next ?_
                  refine CW.rseq ?_
                  refine WL.op (by decide) (R.move rfl) ?_
                  refine WL.op (by decide) (R.nilCheck rfl) ?_
                  refine WL.op (by decide) (FA100_1 rfl) ?_
                  refine WL.op (by decide) (R.load Tryd.underlying3 rfl rfl (cell_at hR rfl)) ?_
                  refine WL.op (by decide) (R.move rfl) ?_
                  refine WL.neqS (by decide) rfl rfl (fun h8 => ?_) (fun h8 => ?_)
                  · skip
                    refine WL.next ?_
                    refine CW.condT rfl ?_
                    refine CW.region ?_
                    refine WL.op (by decide) (R.move rfl) ?_
                    refine WL.op (by decide) (R.nilCheck rfl) ?_
                    refine WL.op (by decide) (FA100_2 rfl) ?_
                    refine WL.eff rfl (OP.store1 sz4 rfl rfl rfl rfl hR (Nat.le_of_ble_eq_true rfl) rfl ?_)
                    intro w16 hcs _ hR
                    have hC := hC.trans hcs
                    have hS := hS.kept hcs (fun g o h => (hg g o h).1)
                    have hG := hG.kept hcs (by omega)
                    have hsz := Nat.le_trans hsz hcs.size
                    have hB2 := hcs.at hB2 (by omega)
                    have hB3 := hcs.at hB3 (by omega)
                    refine WL.nil ?_
                    refine EW.inNormal ?_
                    exact EW.cutK [0, 2, 3, 6] ⟨_, a6, true, rfl, rfl, ⟨hsl, Nat.le_trans hs2l (by decide), by simp⟩, hR, hC, hG, hsz, hB2, hB3, by rw [body_far (bs := bs) (nm := s) (ty := v2) (a := a5) (n := v5) (ttl := ttlOf v4) (by omega) hn2 (by omega)]; rfl⟩
                  · skip
                    refine WL.next ?_
                    refine CW.condF rfl ?_
                    refine CW.skip ?_
                    refine EW.inNormal ?_
                    exact EW.cutK [0, 2, 3, 6] ⟨_, a6, _, rfl, rfl, ⟨hsl, Nat.le_trans hs2l (by decide), by simp⟩, hR, hC, hG, hsz, hB2, hB3, body_near (bs := bs) (nm := s) (ty := v2) (a := a5) (n := v5) (ttl := ttlOf v4) (by omega) hn2 (by omega)⟩
                · skip
                  refine WL.op (by decide) (R.pickF rfl rfl) ?_
                  refine WL.op (by decide) (R.move rfl) ?_
                  refine WL.gop (by decide) rfl rfl rfl (FA57_1 rfl) ?_
                  refine WL.gop (by decide) rfl rfl rfl (R.load (v := .int .i64 (v2 : Int)) Tryd.underlying3 rfl rfl (cell_at hB3 (Rec.at1 _))) ?_
                  refine WL.gsplit _ (by decide) rfl rfl rfl (R.eqlD rfl rfl) (fun h9 => ?_) (fun h9 => ?_)
                  · skip
                    refine WL.op (by decide) (R.pickF rfl rfl) ?_
                    refine WL.op (by decide) (R.assign rfl) ?_
                    refine WL.next ?_
                    refine CW.condT rfl ?_
                    refine CW.rseq ?_
                    refine WL.op (by decide) (R.move rfl) ?_
                    refine WL.eff rfl (OP.call (by decide) Tryd.func46 (by kernel_rfl) (by kernel_rfl) rfl (rname_st rb _ m c bs a5 false _ hR hS (fun g o h => (hg g o h).1) hin9 hm) ?_)
                    rintro ed w14 ⟨s2, a6, b6, rfl, hR, hc14, hn2, hs2l⟩
                    refine ⟨_, rfl, ?_⟩
                    have hC := hC.trans hc14
                    have hS := hS.kept hc14 (fun g o h => (hg g o h).1)
                    have hG := hG.kept hc14 (by omega)
                    have hsz := Nat.le_trans hsz hc14.size
                    have hB2 := hc14.at hB2 (by omega)
                    have hB3 := hc14.at hB3 (by omega)
                    refine WL.op (by decide) (FA57_4 rfl) ?_
                    refine WL.eff rfl (OP.store1 sz9 rfl rfl rfl rfl hB3 (by rw [List.size_toArray, Rec.length rfl]; decide) rfl ?_)
                    intro w15 hc15 hs15 hB3n
                    have hB3 := hB3n
                    rw [show (0 + 19 : Nat) = 19 from rfl, Rec.set19 rfl] at hB3
                    have hC := hC.then hc15 (fun k hk e => by omega)
                    have hG := hG.kept hc15 (by omega)
                    have hS := hS.kept hc15 (fun g o h e => by have := hg g o h; omega)
                    have hR := hc15.at hR (by omega)
                    have hB2 := hc15.at hB2 (by omega)
                    have hsz := Nat.le_trans hsz hc15.size
                    refine WL.next ?_
                    refine CW.rseq ?_
                    refine WL.op (by decide) (R.move rfl) ?_
                    refine WL.op (by decide) (R.nilCheck rfl) ?_
                    refine WL.op (by decide) (FA100_1 rfl) ?_
                    refine WL.op (by decide) (R.load Tryd.underlying3 rfl rfl (cell_at hR rfl)) ?_
                    refine WL.op (by decide) (R.move rfl) ?_
                    refine WL.neqS (by decide) rfl rfl (fun h10 => ?_) (fun h10 => ?_)
                    · skip
                      refine WL.next ?_
                      refine CW.condT rfl ?_
                      refine CW.region ?_
                      refine WL.op (by decide) (R.move rfl) ?_
                      refine WL.op (by decide) (R.nilCheck rfl) ?_
                      refine WL.op (by decide) (FA100_2 rfl) ?_
                      refine WL.eff rfl (OP.store1 sz4 rfl rfl rfl rfl hR (Nat.le_of_ble_eq_true rfl) rfl ?_)
                      intro w16 hcs _ hR
                      have hC := hC.trans hcs
                      have hS := hS.kept hcs (fun g o h => (hg g o h).1)
                      have hG := hG.kept hcs (by omega)
                      have hsz := Nat.le_trans hsz hcs.size
                      have hB2 := hcs.at hB2 (by omega)
                      have hB3 := hcs.at hB3 (by omega)
                      refine WL.nil ?_
                      refine EW.inNormal ?_
                      exact EW.cutK [0, 2, 3, 6] ⟨_, a6, true, rfl, rfl, ⟨hsl, Nat.le_trans hs2l (by decide), by simp⟩, hR, hC, hG, hsz, hB2, hB3, by rw [body_far (bs := bs) (nm := s) (ty := v2) (a := a5) (n := v5) (ttl := ttlOf v4) (by omega) hn2 (by omega)]; rfl⟩
                    · skip
                      refine WL.next ?_
                      refine CW.condF rfl ?_
                      refine CW.skip ?_
                      refine EW.inNormal ?_
                      exact EW.cutK [0, 2, 3, 6] ⟨_, a6, _, rfl, rfl, ⟨hsl, Nat.le_trans hs2l (by decide), by simp⟩, hR, hC, hG, hsz, hB2, hB3, body_near (bs := bs) (nm := s) (ty := v2) (a := a5) (n := v5) (ttl := ttlOf v4) (by omega) hn2 (by omega)⟩
                  · skip
                    refine WL.op (by decide) (R.pickF rfl rfl) ?_
                    refine WL.op (by decide) (R.assign rfl) ?_
                    refine WL.next ?_
                    refine CW.condF rfl ?_
                    refine CW.region ?_
                    refine WL.op (by decide) (R.move rfl) ?_
                    refine WL.op (by decide) (R.strOf (s := dat) rfl hdl hdat) ?_
                    refine WL.op (by decide) (FA57_5 rfl) ?_
                    refine WL.eff rfl (OP.store1 sz9 rfl rfl rfl rfl hB3 (by rw [List.size_toArray, Rec.length rfl]; decide) rfl ?_)
                    intro w15 hc15 hs15 hB3n
                    have hB3 := hB3n
                    rw [show (0 + 20 : Nat) = 20 from rfl, Rec.set20 rfl] at hB3
                    have hC := hC.then hc15 (fun k hk e => by omega)
                    have hG := hG.kept hc15 (by omega)
                    have hR := hc15.at hR (by omega)
                    have hB2 := hc15.at hB2 (by omega)
                    have hsz := Nat.le_trans hsz hc15.size
                    refine WL.nil ?_
                    refine EW.inNormal ?_
                    exact EW.cutK [0, 2, 3, 6] ⟨_, a5, false, rfl, rfl, ⟨hsl, by simp, by show dat.length ≤ _; omega⟩, hR, hC, hG, hsz, hB2, hB3, by rw [body_other (bs := bs) (nm := s) (ty := v2) (a := a5) (n := v5) (ttl := ttlOf v4) (by omega) (by omega) (by omega)]; exact ⟨by rw [hdat0]; rfl, rfl⟩⟩
          · skip
            refine WL.op (by decide) (R.move rfl) ?_
            refine WL.pass (by decide) rfl rfl rfl ?_
            refine WL.pass (by decide) rfl rfl rfl ?_
            refine WL.op (by decide) (R.pickF rfl rfl) ?_
            refine WL.op (by decide) (R.assign rfl) ?_
            refine WL.next ?_
            refine CW.condF rfl ?_
            refine CW.rseq ?_
            refine WL.op (by decide) (FA57_1 rfl) ?_
            refine WL.op (by decide) (R.load (v := .int .i64 (v2 : Int)) Tryd.underlying3 rfl rfl (cell_at hB3 (Rec.at1 _))) ?_
            refine WL.eqlS (by decide) rfl rfl (fun h11 => ?_) (fun h11 => ?_)
            · skip
              refine WL.op (by decide) (R.move rfl) ?_
              refine WL.pass (by decide) rfl rfl rfl ?_
              refine WL.pass (by decide) rfl rfl rfl ?_
              refine WL.pass (by decide) rfl rfl rfl ?_
              refine WL.op (by decide) (R.pickT rfl rfl) ?_
              refine WL.op (by decide) (R.move rfl) ?_
              refine WL.pass (by decide) rfl rfl rfl ?_
              refine WL.pass (by decide) rfl rfl rfl ?_
              refine WL.pass (by decide) rfl rfl rfl ?_
              refine WL.op (by decide) (R.pickT rfl rfl) ?_
              refine WL.op (by decide) (R.assign rfl) ?_
              refine WL.next ?_
              refine CW.condT rfl ?_
              refine CW.rseq ?_
              refine WL.op (by decide) (R.move rfl) ?_
              refine WL.eff rfl (OP.call (by decide) Tryd.func46 (by kernel_rfl) (by kernel_rfl) rfl (rname_st rb _ m c bs a5 false _ hR hS (fun g o h => (hg g o h).1) hin9 hm) ?_)
              rintro ed w14 ⟨s2, a6, b6, rfl, hR, hc14, hn2, hs2l⟩
              refine ⟨_, rfl, ?_⟩
              have hC := hC.trans hc14
              have hS := hS.kept hc14 (fun g o h => (hg g o h).1)
              have hG := hG.kept hc14 (by omega)
              have hsz := Nat.le_trans hsz hc14.size
              have hB2 := hc14.at hB2 (by omega)
              have hB3 := hc14.at hB3 (by omega)
              refine WL.op (by decide) (FA57_4 rfl) ?_
              refine WL.eff rfl (OP.store1 sz9 rfl rfl rfl rfl hB3 (by rw [List.size_toArray, Rec.length rfl]; decide) rfl ?_)
              intro w15 hc15 hs15 hB3n
              have hB3 := hB3n
              rw [show (0 + 19 : Nat) = 19 from rfl, Rec.set19 rfl] at hB3
              have hC := hC.then hc15 (fun k hk e => by omega)
              have hG := hG.kept hc15 (by omega)
              have hS := hS.kept hc15 (fun g o h e => by have := hg g o h; omega)
              have hR := hc15.at hR (by omega)
              have hB2 := hc15.at hB2 (by omega)
              have hsz := Nat.le_trans hsz hc15.size
              refine WL.next ?_
              refine CW.rseq ?_
              refine WL.op (by decide) (R.move rfl) ?_
              refine WL.op (by decide) (R.nilCheck rfl) ?_
              refine WL.op (by decide) (FA100_1 rfl) ?_
              refine WL.op (by decide) (R.load Tryd.underlying3 rfl rfl (cell_at hR rfl)) ?_
              refine WL.op (by decide) (R.move rfl) ?_
              refine WL.neqS (by decide) rfl rfl (fun h12 => ?_) (fun h12 => ?_)
              · skip
                refine WL.next ?_
                refine CW.condT rfl ?_
                refine CW.region ?_
                refine WL.op (by decide) (R.move rfl) ?_
                refine WL.op (by decide) (R.nilCheck rfl) ?_
                refine WL.op (by decide) (FA100_2 rfl) ?_
                refine WL.eff rfl (OP.store1 sz4 rfl rfl rfl rfl hR (Nat.le_of_ble_eq_true rfl) rfl ?_)
                intro w16 hcs _ hR
                have hC := hC.trans hcs
                have hS := hS.kept hcs (fun g o h => (hg g o h).1)
                have hG := hG.kept hcs (by omega)
                have hsz := Nat.le_trans hsz hcs.size
                have hB2 := hcs.at hB2 (by omega)
                have hB3 := hcs.at hB3 (by omega)
                refine WL.nil ?_
                refine EW.inNormal ?_
                exact EW.cutK [0, 2, 3, 6] ⟨_, a6, true, rfl, rfl, ⟨hsl, Nat.le_trans hs2l (by decide), by simp⟩, hR, hC, hG, hsz, hB2, hB3, by rw [body_far (bs := bs) (nm := s) (ty := v2) (a := a5) (n := v5) (ttl := ttlOf v4) (by omega) hn2 (by omega)]; rfl⟩
              · skip
                refine WL.next ?_
                refine CW.condF rfl ?_
                refine CW.skip ?_
                refine EW.inNormal ?_
                exact EW.cutK [0, 2, 3, 6] ⟨_, a6, _, rfl, rfl, ⟨hsl, Nat.le_trans hs2l (by decide), by simp⟩, hR, hC, hG, hsz, hB2, hB3, body_near (bs := bs) (nm := s) (ty := v2) (a := a5) (n := v5) (ttl := ttlOf v4) (by omega) hn2 (by omega)⟩
            · skip
              refine WL.op (by decide) (R.move rfl) ?_
              refine WL.gop (by decide) rfl rfl rfl (FA57_1 rfl) ?_
              refine WL.gop (by decide) rfl rfl rfl (R.load (v := .int .i64 (v2 : Int)) Tryd.underlying3 rfl rfl (cell_at hB3 (Rec.at1 _))) ?_
              refine WL.gsplit _ (by decide) rfl rfl rfl (R.eqlD rfl rfl) (fun h13 => ?_) (fun h13 => ?_)
              · skip
                refine WL.op (by decide) (R.pickF rfl rfl) ?_
                refine WL.op (by decide) (R.move rfl) ?_
                refine WL.pass (by decide) rfl rfl rfl ?_
                refine WL.pass (by decide) rfl rfl rfl ?_
                refine WL.pass (by decide) rfl rfl rfl ?_
                refine WL.op (by decide) (R.pickT rfl rfl) ?_
                refine WL.op (by decide) (R.assign rfl) ?_
                refine WL.next ?_
                refine CW.condT rfl ?_
                refine CW.rseq ?_
                refine WL.op (by decide) (R.move rfl) ?_
                refine WL.eff rfl (OP.call (by decide) Tryd.func46 (by kernel_rfl) (by kernel_rfl) rfl (rname_st rb _ m c bs a5 false _ hR hS (fun g o h => (hg g o h).1) hin9 hm) ?_)
                rintro ed w14 ⟨s2, a6, b6, rfl, hR, hc14, hn2, hs2l⟩
                refine ⟨_, rfl, ?_⟩
                have hC := hC.trans hc14
                have hS := hS.kept hc14 (fun g o h => (hg g o h).1)
                have hG := hG.kept hc14 (by omega)
                have hsz := Nat.le_trans hsz hc14.size
                have hB2 := hc14.at hB2 (by omega)
                have hB3 := hc14.at hB3 (by omega)
                refine WL.op (by decide) (FA57_4 rfl) ?_
                refine WL.eff rfl (OP.store1 sz9 rfl rfl rfl rfl hB3 (by rw [List.size_toArray, Rec.length rfl]; decide) rfl ?_)
                intro w15 hc15 hs15 hB3n
                have hB3 := hB3n
                rw [show (0 + 19 : Nat) = 19 from rfl, Rec.set19 rfl] at hB3
                have hC := hC.then hc15 (fun k hk e => by omega)
                have hG := hG.kept hc15 (by omega)
                have hS := hS.kept hc15 (fun g o h e => by have := hg g o h; omega)
                have hR := hc15.at hR (by omega)
                have hB2 := hc15.at hB2 (by omega)
                have hsz := Nat.le_trans hsz hc15.size
                refine WL.next ?_
                refine CW.rseq ?_
                refine WL.op (by decide) (R.move rfl) ?_
                refine WL.op (by decide) (R.nilCheck rfl) ?_
                refine WL.op (by decide) (FA100_1 rfl) ?_
                refine WL.op (by decide) (R.load Tryd.underlying3 rfl rfl (cell_at hR rfl)) ?_
                refine WL.op (by decide) (R.move rfl) ?_
                refine WL.neqS (by decide) rfl rfl (fun h14 => ?_) (fun h14 => ?_)
                · skip
                  refine WL.next ?_
                  refine CW.condT rfl ?_
                  refine CW.region ?_
                  refine WL.op (by decide) (R.move rfl) ?_
                  refine WL.op (by decide) (R.nilCheck rfl) ?_
                  refine WL.op (by decide) (FA100_2 rfl) ?_
                  refine WL.eff rfl (OP.store1 sz4 rfl rfl rfl rfl hR (Nat.le_of_ble_eq_true rfl) rfl ?_)
                  intro w16 hcs _ hR
                  have hC := hC.trans hcs
                  have hS := hS.kept hcs (fun g o h => (hg g o h).1)
                  have hG := hG.kept hcs (by omega)
                  have hsz := Nat.le_trans hsz hcs.size
                  have hB2 := hcs.at hB2 (by omega)
                  have hB3 := hcs.at hB3 (by omega)
                  refine WL.nil ?_
                  refine EW.inNormal ?_
                  exact EW.cutK [0, 2, 3, 6] ⟨_, a6, true, rfl, rfl, ⟨hsl, Nat.le_trans hs2l (by decide), by simp⟩, hR, hC, hG, hsz, hB2, hB3, by rw [body_far (bs := bs) (nm := s) (ty := v2) (a := a5) (n := v5) (ttl := ttlOf v4) (by omega) hn2 (by omega)]; rfl⟩
                · skip
                  refine WL.next ?_
                  refine CW.condF rfl ?_
                  refine CW.skip ?_
                  refine EW.inNormal ?_
                  exact EW.cutK [0, 2, 3, 6] ⟨_, a6, _, rfl, rfl, ⟨hsl, Nat.le_trans hs2l (by decide), by simp⟩, hR, hC, hG, hsz, hB2, hB3, body_near (bs := bs) (nm := s) (ty := v2) (a := a5) (n := v5) (ttl := ttlOf v4) (by omega) hn2 (by omega)⟩
              · skip
                refine WL.op (by decide) (R.pickF rfl rfl) ?_
                refine WL.op (by decide) (R.move rfl) ?_
                refine WL.gop (by decide) rfl rfl rfl (FA57_1 rfl) ?_
                refine WL.gop (by decide) rfl rfl rfl (R.load (v := .int .i64 (v2 : Int)) Tryd.underlying3 rfl rfl (cell_at hB3 (Rec.at1 _))) ?_
                refine WL.gsplit _ (by decide) rfl rfl rfl (R.eqlD rfl rfl) (fun h15 => ?_) (fun h15 => ?_)
                · skip
                  refine WL.op (by decide) (R.pickF rfl rfl) ?_
                  refine WL.op (by decide) (R.assign rfl) ?_
                  refine WL.next ?_
                  refine CW.condT rfl ?_
                  refine CW.rseq ?_
                  refine WL.op (by decide) (R.move rfl) ?_
                  refine WL.eff rfl (OP.call (by decide) Tryd.func46 (by kernel_rfl) (by kernel_rfl) rfl (rname_st rb _ m c bs a5 false _ hR hS (fun g o h => (hg g o h).1) hin9 hm) ?_)
                  rintro ed w14 ⟨s2, a6, b6, rfl, hR, hc14, hn2, hs2l⟩
                  refine ⟨_, rfl, ?_⟩
                  have hC := hC.trans hc14
                  have hS := hS.kept hc14 (fun g o h => (hg g o h).1)
                  have hG := hG.kept hc14 (by omega)
                  have hsz := Nat.le_trans hsz hc14.size
                  have hB2 := hc14.at hB2 (by omega)
                  have hB3 := hc14.at hB3 (by omega)
                  refine WL.op (by decide) (FA57_4 rfl) ?_
                  refine WL.eff rfl (OP.store1 sz9 rfl rfl rfl rfl hB3 (by rw [List.size_toArray, Rec.length rfl]; decide) rfl ?_)
                  intro w15 hc15 hs15 hB3n
                  have hB3 := hB3n
                  rw [show (0 + 19 : Nat) = 19 from rfl, Rec.set19 rfl] at hB3
                  have hC := hC.then hc15 (fun k hk e => by omega)
                  have hG := hG.kept hc15 (by omega)
                  have hS := hS.kept hc15 (fun g o h e => by have := hg g o h; omega)
                  have hR := hc15.at hR (by omega)
                  have hB2 := hc15.at hB2 (by omega)
                  have hsz := Nat.le_trans hsz hc15.size
                  refine WL.next ?_
                  refine CW.rseq ?_
                  refine WL.op (by decide) (R.move rfl) ?_
                  refine WL.op (by decide) (R.nilCheck rfl) ?_
                  refine WL.op (by decide) (FA100_1 rfl) ?_
                  refine WL.op (by decide) (R.load Tryd.underlying3 rfl rfl (cell_at hR rfl)) ?_
                  refine WL.op (by decide) (R.move rfl) ?_
                  refine WL.neqS (by decide) rfl rfl (fun h16 => ?_) (fun h16 => ?_)
                  · skip
                    refine WL.next ?_
                    refine CW.condT rfl ?_
                    refine CW.region ?_
                    refine WL.op (by decide) (R.move rfl) ?_
                    refine WL.op (by decide) (R.nilCheck rfl) ?_
                    refine WL.op (by decide) (FA100_2 rfl) ?_
                    refine WL.eff rfl (OP.store1 sz4 rfl rfl rfl rfl hR (Nat.le_of_ble_eq_true rfl) rfl ?_)
                    intro w16 hcs _ hR
                    have hC := hC.trans hcs
                    have hS := hS.kept hcs (fun g o h => (hg g o h).1)
                    have hG := hG.kept hcs (by omega)
                    have hsz := Nat.le_trans hsz hcs.size
                    have hB2 := hcs.at hB2 (by omega)
                    have hB3 := hcs.at hB3 (by omega)
                    refine WL.nil ?_
                    refine EW.inNormal ?_
                    exact EW.cutK [0, 2, 3, 6] ⟨_, a6, true, rfl, rfl, ⟨hsl, Nat.le_trans hs2l (by decide), by simp⟩, hR, hC, hG, hsz, hB2, hB3, by rw [body_far (bs := bs) (nm := s) (ty := v2) (a := a5) (n := v5) (ttl := ttlOf v4) (by omega) hn2 (by omega)]; rfl⟩
                  · skip
                    refine WL.next ?_
                    refine CW.condF rfl ?_
                    refine CW.skip ?_
                    refine EW.inNormal ?_
                    exact EW.cutK [0, 2, 3, 6] ⟨_, a6, _, rfl, rfl, ⟨hsl, Nat.le_trans hs2l (by decide), by simp⟩, hR, hC, hG, hsz, hB2, hB3, body_near (bs := bs) (nm := s) (ty := v2) (a := a5) (n := v5) (ttl := ttlOf v4) (by omega) hn2 (by omega)⟩
                · skip
                  refine WL.op (by decide) (R.pickF rfl rfl) ?_
                  refine WL.op (by decide) (R.assign rfl) ?_
                  refine WL.next ?_
                  refine CW.condF rfl ?_
                  refine CW.region ?_
                  refine WL.op (by decide) (R.move rfl) ?_
                  refine WL.op (by decide) (R.strOf (s := dat) rfl hdl hdat) ?_
                  refine WL.op (by decide) (FA57_5 rfl) ?_
                  refine WL.eff rfl (OP.store1 sz9 rfl rfl rfl rfl hB3 (by rw [List.size_toArray, Rec.length rfl]; decide) rfl ?_)
                  intro w15 hc15 hs15 hB3n
                  have hB3 := hB3n
                  rw [show (0 + 20 : Nat) = 20 from rfl, Rec.set20 rfl] at hB3
                  have hC := hC.then hc15 (fun k hk e => by omega)
                  have hG := hG.kept hc15 (by omega)
                  have hR := hc15.at hR (by omega)
                  have hB2 := hc15.at hB2 (by omega)
                  have hsz := Nat.le_trans hsz hc15.size
                  refine WL.nil ?_
                  refine EW.inNormal ?_
                  exact EW.cutK [0, 2, 3, 6] ⟨_, a5, false, rfl, rfl, ⟨hsl, by simp, by show dat.length ≤ _; omega⟩, hR, hC, hG, hsz, hB2, hB3, by rw [body_other (bs := bs) (nm := s) (ty := v2) (a := a5) (n := v5) (ttl := ttlOf v4) (by omega) (by omega) (by omega)]; exact ⟨by rw [hdat0]; rfl, rfl⟩⟩
      · skip
        refine WL.op (by decide) (R.move rfl) ?_
        refine WL.pass (by decide) rfl rfl rfl ?_
        refine WL.pass (by decide) rfl rfl rfl ?_
        refine WL.op (by decide) (R.pickF rfl rfl) ?_
        refine WL.op (by decide) (R.assign rfl) ?_
        refine WL.next ?_
        refine CW.condF rfl ?_
        refine CW.rseq ?_
        refine WL.op (by decide) (FA57_1 rfl) ?_
        refine WL.op (by decide) (R.load (v := .int .i64 (v2 : Int)) Tryd.underlying3 rfl rfl (cell_at hB3 (Rec.at1 _))) ?_
        refine WL.eqlS (by decide) rfl rfl (fun h17 => ?_) (fun h17 => ?_)
        · skip
          refine WL.op (by decide) (R.move rfl) ?_
          refine WL.gop (by decide) rfl rfl rfl (R.move rfl) ?_
          refine WL.gsplit _ (by decide) rfl rfl rfl (R.eqlD rfl rfl) (fun h18 => ?_) (fun h18 => ?_)
          · skip
            refine WL.op (by decide) (R.pickT rfl rfl) ?_
            refine WL.op (by decide) (R.assign rfl) ?_
            refine WL.next ?_
            refine CW.condT rfl ?_
            refine CW.region ?_
            refine WL.op (by decide) (FA57_3 rfl) ?_
            refine WL.op (by decide) (R.sliceArr (lv := none) (hv := none) (l1 := 0) (h1 := 16) Tryd.underlying27 sz5 rfl rfl rfl (by kernel_rfl) (by decide)) ?_
            refine WL.op (by decide) (R.move rfl) ?_
            refine WL.eff rfl (OP.copy (cs := dat) (by decide) rfl rfl hB3 (by rw [(show dat.length = 16 by omega)]; exact (Nat.min_eq_left (by omega) |>.trans (by omega)).symm) (cells_at hdat) (by rw [List.size_toArray, Rec.length rfl, (show dat.length = 16 by omega)]; decide) ?_)
            intro w14 hcp _ hB3n
            have hB3 := hB3n
            rw [show (dat).length = 16 from (show dat.length = 16 by omega)] at hB3
            rw [show (0 + 3 + 0 : Nat) = 3 from rfl, Rec.setAddr rfl ((show dat.length = 16 by omega))] at hB3
            have hC := hC.then hcp (fun k hk e => by omega)
            have hG := hG.kept hcp (by omega)
            have hR := hcp.at hR (by omega)
            have hB2 := hcp.at hB2 (by omega)
            have hsz := Nat.le_trans hsz hcp.size
            refine WL.nil ?_
            refine EW.inNormal ?_
            exact EW.cutK [0, 2, 3, 6] ⟨_, a5, false, rfl, by show dat.length = 16; omega, ⟨hsl, by simp, by simp⟩, hR, hC, hG, hsz, hB2, hB3, by rw [body_aaaa (bs := bs) (nm := s) (ty := v2) (a := a5) (n := v5) (ttl := ttlOf v4) (by omega) (by omega)]; exact ⟨by rw [hdat0]; rfl, rfl⟩⟩
          · skip
            refine WL.op (by decide) (R.pickT rfl rfl) ?_
            refine WL.op (by decide) (R.assign rfl) ?_
            refine WL.next ?_
            refine CW.condF rfl ?_
            refine CW.rseq ?_
            refine WL.op (by decide) (FA57_1 rfl) ?_
            refine WL.op (by decide) (R.load (v := .int .i64 (v2 : Int)) Tryd.underlying3 rfl rfl (cell_at hB3 (Rec.at1 _))) ?_
            refine WL.eqlS (by decide) rfl rfl (fun h19 => ?_) (fun h19 => ?_)
            · skip
              refine WL.op (by decide) (R.move rfl) ?_
              refine WL.pass (by decide) rfl rfl rfl ?_
              refine WL.pass (by decide) rfl rfl rfl ?_
              refine WL.pass (by decide) rfl rfl rfl ?_
              refine WL.op (by decide) (R.pickT rfl rfl) ?_
              refine WL.op (by decide) (R.move rfl) ?_
              refine WL.pass (by decide) rfl rfl rfl ?_
              refine WL.pass (by decide) rfl rfl rfl ?_
              refine WL.pass (by decide) rfl rfl rfl ?_
              refine WL.op (by decide) (R.pickT rfl rfl) ?_
              refine WL.op (by decide) (R.assign rfl) ?_
              refine WL.next ?_
              refine CW.condT rfl ?_
              refine CW.rseq ?_
              refine WL.op (by decide) (R.move rfl) ?_
              refine WL.eff rfl (OP.call (by decide) Tryd.func46 (by kernel_rfl) (by kernel_rfl) rfl (rname_st rb _ m c bs a5 false _ hR hS (fun g o h => (hg g o h).1) hin9 hm) ?_)
              rintro ed w14 ⟨s2, a6, b6, rfl, hR, hc14, hn2, hs2l⟩
              refine ⟨_, rfl, ?_⟩
              have hC := hC.trans hc14
              have hS := hS.kept hc14 (fun g o h => (hg g o h).1)
              have hG := hG.kept hc14 (by omega)
              have hsz := Nat.le_trans hsz hc14.size
              have hB2 := hc14.at hB2 (by omega)
              have hB3 := hc14.at hB3 (by omega)
              refine WL.op (by decide) (FA57_4 rfl) ?_
              refine WL.eff rfl (OP.store1 sz9 rfl rfl rfl rfl hB3 (by rw [List.size_toArray, Rec.length rfl]; decide) rfl ?_)
              intro w15 hc15 hs15 hB3n
              have hB3 := hB3n
              rw [show (0 + 19 : Nat) = 19 from rfl, Rec.set19 rfl] at hB3
              have hC := hC.then hc15 (fun k hk e => by omega)
              have hG := hG.kept hc15 (by omega)
              have hS := hS.kept hc15 (fun g o h e => by have := hg g o h; omega)
              have hR := hc15.at hR (by omega)
              have hB2 := hc15.at hB2 (by omega)
              have hsz := Nat.le_trans hsz hc15.size
              refine WL.next ?_
              refine CW.rseq ?_
              refine WL.op (by decide) (R.move rfl) ?_
              refine WL.op (by decide) (R.nilCheck rfl) ?_
              refine WL.op (by decide) (FA100_1 rfl) ?_
              refine WL.op (by decide) (R.load Tryd.underlying3 rfl rfl (cell_at hR rfl)) ?_
              refine WL.op (by decide) (R.move rfl) ?_
              refine WL.neqS (by decide) rfl rfl (fun h20 => ?_) (fun h20 => ?_)
              · skip
                refine WL.next ?_
                refine CW.condT rfl ?_
                refine CW.region ?_
                refine WL.op (by decide) (R.move rfl) ?_
                refine WL.op (by decide) (R.nilCheck rfl) ?_
                refine WL.op (by decide) (FA100_2 rfl) ?_
                refine WL.eff rfl (OP.store1 sz4 rfl rfl rfl rfl hR (Nat.le_of_ble_eq_true rfl) rfl ?_)
                intro w16 hcs _ hR
                have hC := hC.trans hcs
                have hS := hS.kept hcs (fun g o h => (hg g o h).1)
                have hG := hG.kept hcs (by omega)
                have hsz := Nat.le_trans hsz hcs.size
                have hB2 := hcs.at hB2 (by omega)
                have hB3 := hcs.at hB3 (by omega)
                refine WL.nil ?_
                refine EW.inNormal ?_
                exact EW.cutK [0, 2, 3, 6] ⟨_, a6, true, rfl, rfl, ⟨hsl, Nat.le_trans hs2l (by decide), by simp⟩, hR, hC, hG, hsz, hB2, hB3, by rw [body_far (bs := bs) (nm := s) (ty := v2) (a := a5) (n := v5) (ttl := ttlOf v4) (by omega) hn2 (by omega)]; rfl⟩
              · skip
                refine WL.next ?_
                refine CW.condF rfl ?_
                refine CW.skip ?_
                refine EW.inNormal ?_
                exact EW.cutK [0, 2, 3, 6] ⟨_, a6, _, rfl, rfl, ⟨hsl, Nat.le_trans hs2l (by decide), by simp⟩, hR, hC, hG, hsz, hB2, hB3, body_near (bs := bs) (nm := s) (ty := v2) (a := a5) (n := v5) (ttl := ttlOf v4) (by omega) hn2 (by omega)⟩
            · skip
              refine WL.op (by decide) (R.move rfl) ?_
              refine WL.gop (by decide) rfl rfl rfl (FA57_1 rfl) ?_
              refine WL.gop (by decide) rfl rfl rfl (R.load (v := .int .i64 (v2 : Int)) Tryd.underlying3 rfl rfl (cell_at hB3 (Rec.at1 _))) ?_
              refine WL.gsplit _ (by decide) rfl rfl rfl (R.eqlD rfl rfl) (fun h21 => ?_) (fun h21 => ?_)
              · skip
                refine WL.op (by decide) (R.pickF rfl rfl) ?_
                refine WL.op (by decide) (R.move rfl) ?_
                refine WL.pass (by decide) rfl rfl rfl ?_
                refine WL.pass (by decide) rfl rfl rfl ?_
                refine WL.pass (by decide) rfl rfl rfl ?_
                refine WL.op (by decide) (R.pickT rfl rfl) ?_
                refine WL.op (by decide) (R.assign rfl) ?_
                refine WL.next ?_
                refine CW.condT rfl ?_
                refine CW.rseq ?_
                refine WL.op (by decide) (R.move rfl) ?_
                refine WL.eff rfl (OP.call (by decide) Tryd.func46 (by kernel_rfl) (by kernel_rfl) rfl (rname_st rb _ m c bs a5 false _ hR hS (fun g o h => (hg g o h).1) hin9 hm) ?_)
                rintro ed w14 ⟨s2, a6, b6, rfl, hR, hc14, hn2, hs2l⟩
                refine ⟨_, rfl, ?_⟩
                have hC := hC.trans hc14
                have hS := hS.kept hc14 (fun g o h => (hg g o h).1)
                have hG := hG.kept hc14 (by omega)
                have hsz := Nat.le_trans hsz hc14.size
                have hB2 := hc14.at hB2 (by omega)
                have hB3 := hc14.at hB3 (by omega)
                refine WL.op (by decide) (FA57_4 rfl) ?_
                refine WL.eff rfl (OP.store1 sz9 rfl rfl rfl rfl hB3 (by rw [List.size_toArray, Rec.length rfl]; decide) rfl ?_)
                intro w15 hc15 hs15 hB3n
                have hB3 := hB3n
                rw [show (0 + 19 : Nat) = 19 from rfl, Rec.set19 rfl] at hB3
                have hC := hC.then hc15 (fun k hk e => by omega)
                have hG := hG.kept hc15 (by omega)
                have hS := hS.kept hc15 (fun g o h e => by have := hg g o h; omega)
                have hR := hc15.at hR (by omega)
                have hB2 := hc15.at hB2 (by omega)
                have hsz := Nat.le_trans hsz hc15.size
                refine WL.next ?_
                refine CW.rseq ?_
                refine WL.op (by decide) (R.move rfl) ?_
                refine WL.op (by decide) (R.nilCheck rfl) ?_
                refine WL.op (by decide) (FA100_1 rfl) ?_
                refine WL.op (by decide) (R.load Tryd.underlying3 rfl rfl (cell_at hR rfl)) ?_
                refine WL.op (by decide) (R.move rfl) ?_
                refine WL.neqS (by decide) rfl rfl (fun h22 => ?_) (fun h22 => ?_)
                · skip
                  refine WL.next ?_
                  refine CW.condT rfl ?_
                  refine CW.region ?_
                  refine WL.op (by decide) (R.move rfl) ?_
                  refine WL.op (by decide) (R.nilCheck rfl) ?_
                  refine WL.op (by decide) (FA100_2 rfl) ?_
                  refine WL.eff rfl (OP.store1 sz4 rfl rfl rfl rfl hR (Nat.le_of_ble_eq_true rfl) rfl ?_)
                  intro w16 hcs _ hR
                  have hC := hC.trans hcs
                  have hS := hS.kept hcs (fun g o h => (hg g o h).1)
                  have hG := hG.kept hcs (by omega)
                  have hsz := Nat.le_trans hsz hcs.size
                  have hB2 := hcs.at hB2 (by omega)
                  have hB3 := hcs.at hB3 (by omega)
                  refine WL.nil ?_
                  refine EW.inNormal ?_
                  exact EW.cutK [0, 2, 3, 6] ⟨_, a6, true, rfl, rfl, ⟨hsl, Nat.le_trans hs2l (by decide), by simp⟩, hR, hC, hG, hsz, hB2, hB3, by rw [body_far (bs := bs) (nm := s) (ty := v2) (a := a5) (n := v5) (ttl := ttlOf v4) (by omega) hn2 (by omega)]; rfl⟩
                · skip
                  refine WL.next ?_
                  refine CW.condF rfl ?_
                  refine CW.skip ?_
                  refine EW.inNormal ?_
                  exact EW.cutK [0, 2, 3, 6] ⟨_, a6, _, rfl, rfl, ⟨hsl, Nat.le_trans hs2l (by decide), by simp⟩, hR, hC, hG, hsz, hB2, hB3, body_near (bs := bs) (nm := s) (ty := v2) (a := a5) (n := v5) (ttl := ttlOf v4) (by omega) hn2 (by omega)⟩
              · skip
                refine WL.op (by decide) (R.pickF rfl rfl) ?_
                refine WL.op (by decide) (R.move rfl) ?_
                refine WL.gop (by decide) rfl rfl rfl (FA57_1 rfl) ?_
                refine WL.gop (by decide) rfl rfl rfl (R.load (v := .int .i64 (v2 : Int)) Tryd.underlying3 rfl rfl (cell_at hB3 (Rec.at1 _))) ?_
                refine WL.gsplit _ (by decide) rfl rfl rfl (R.eqlD rfl rfl) (fun h23 => ?_) (fun h23 => ?_)
                · skip
                  refine WL.op (by decide) (R.pickF rfl rfl) ?_
                  refine WL.op (by decide) (R.assign rfl) ?_
                  refine WL.next ?_
                  refine CW.condT rfl ?_
                  refine CW.rseq ?_
                  refine WL.op (by decide) (R.move rfl) ?_
                  refine WL.eff rfl (OP.call (by decide) Tryd.func46 (by kernel_rfl) (by kernel_rfl) rfl (rname_st rb _ m c bs a5 false _ hR hS (fun g o h => (hg g o h).1) hin9 hm) ?_)
                  rintro ed w14 ⟨s2, a6, b6, rfl, hR, hc14, hn2, hs2l⟩
                  refine ⟨_, rfl, ?_⟩
                  have hC := hC.trans hc14
                  have hS := hS.kept hc14 (fun g o h => (hg g o h).1)
                  have hG := hG.kept hc14 (by omega)
                  have hsz := Nat.le_trans hsz hc14.size
                  have hB2 := hc14.at hB2 (by omega)
                  have hB3 := hc14.at hB3 (by omega)
                  refine WL.op (by decide) (FA57_4 rfl) ?_
                  refine WL.eff rfl (OP.store1 sz9 rfl rfl rfl rfl hB3 (by rw [List.size_toArray, Rec.length rfl]; decide) rfl ?_)
                  intro w15 hc15 hs15 hB3n
                  have hB3 := hB3n
                  rw [show (0 + 19 : Nat) = 19 from rfl, Rec.set19 rfl] at hB3
                  have hC := hC.then hc15 (fun k hk e => by omega)
                  have hG := hG.kept hc15 (by omega)
                  have hS := hS.kept hc15 (fun g o h e => by have := hg g o h; omega)
                  have hR := hc15.at hR (by omega)
                  have hB2 := hc15.at hB2 (by omega)
                  have hsz := Nat.le_trans hsz hc15.size
                  refine WL.next ?_
                  refine CW.rseq ?_
                  refine WL.op (by decide) (R.move rfl) ?_
                  refine WL.op (by decide) (R.nilCheck rfl) ?_
                  refine WL.op (by decide) (FA100_1 rfl) ?_
                  refine WL.op (by decide) (R.load Tryd.underlying3 rfl rfl (cell_at hR rfl)) ?_
                  refine WL.op (by decide) (R.move rfl) ?_
                  refine WL.neqS (by decide) rfl rfl (fun h24 => ?_) (fun h24 => ?_)
                  · skip
                    refine WL.next ?_
                    refine CW.condT rfl ?_
                    refine CW.region ?_
                    refine WL.op (by decide) (R.move rfl) ?_
                    refine WL.op (by decide) (R.nilCheck rfl) ?_
                    refine WL.op (by decide) (FA100_2 rfl) ?_
                    refine WL.eff rfl (OP.store1 sz4 rfl rfl rfl rfl hR (Nat.le_of_ble_eq_true rfl) rfl ?_)
                    intro w16 hcs _ hR
                    have hC := hC.trans hcs
                    have hS := hS.kept hcs (fun g o h => (hg g o h).1)
                    have hG := hG.kept hcs (by omega)
                    have hsz := Nat.le_trans hsz hcs.size
                    have hB2 := hcs.at hB2 (by omega)
                    have hB3 := hcs.at hB3 (by omega)
                    refine WL.nil ?_
                    refine EW.inNormal ?_
                    exact EW.cutK [0, 2, 3, 6] ⟨_, a6, true, rfl, rfl, ⟨hsl, Nat.le_trans hs2l (by decide), by simp⟩, hR, hC, hG, hsz, hB2, hB3, by rw [body_far (bs := bs) (nm := s) (ty := v2) (a := a5) (n := v5) (ttl := ttlOf v4) (by omega) hn2 (by omega)]; rfl⟩
                  · skip
                    refine WL.next ?_
                    refine CW.condF rfl ?_
                    refine CW.skip ?_
                    refine EW.inNormal ?_
                    exact EW.cutK [0, 2, 3, 6] ⟨_, a6, _, rfl, rfl, ⟨hsl, Nat.le_trans hs2l (by decide), by simp⟩, hR, hC, hG, hsz, hB2, hB3, body_near (bs := bs) (nm := s) (ty := v2) (a := a5) (n := v5) (ttl := ttlOf v4) (by omega) hn2 (by omega)⟩
                · skip
                  refine WL.op (by decide) (R.pickF rfl rfl) ?_
                  refine WL.op (by decide) (R.assign rfl) ?_
                  refine WL.next ?_
                  refine CW.condF rfl ?_
                  refine CW.region ?_
                  refine WL.op (by decide) (R.move rfl) ?_
                  refine WL.op (by decide) (R.strOf (s := dat) rfl hdl hdat) ?_
                  refine WL.op (by decide) (FA57_5 rfl) ?_
                  refine WL.eff rfl (OP.store1 sz9 rfl rfl rfl rfl hB3 (by rw [List.size_toArray, Rec.length rfl]; decide) rfl ?_)
                  intro w15 hc15 hs15 hB3n
                  have hB3 := hB3n
                  rw [show (0 + 20 : Nat) = 20 from rfl, Rec.set20 rfl] at hB3
                  have hC := hC.then hc15 (fun k hk e => by omega)
                  have hG := hG.kept hc15 (by omega)
                  have hR := hc15.at hR (by omega)
                  have hB2 := hc15.at hB2 (by omega)
                  have hsz := Nat.le_trans hsz hc15.size
                  refine WL.nil ?_
                  refine EW.inNormal ?_
                  exact EW.cutK [0, 2, 3, 6] ⟨_, a5, false, rfl, rfl, ⟨hsl, by simp, by show dat.length ≤ _; omega⟩, hR, hC, hG, hsz, hB2, hB3, by rw [body_other (bs := bs) (nm := s) (ty := v2) (a := a5) (n := v5) (ttl := ttlOf v4) (by omega) (by omega) (by omega)]; exact ⟨by rw [hdat0]; rfl, rfl⟩⟩
        · skip
          refine WL.op (by decide) (R.move rfl) ?_
          refine WL.pass (by decide) rfl rfl rfl ?_
          refine WL.pass (by decide) rfl rfl rfl ?_
          refine WL.op (by decide) (R.pickF rfl rfl) ?_
          refine WL.op (by decide) (R.assign rfl) ?_
          refine WL.next ?_
          refine CW.condF rfl ?_
          refine CW.rseq ?_
          refine WL.op (by decide) (FA57_1 rfl) ?_
          refine WL.op (by decide) (R.load (v := .int .i64 (v2 : Int)) Tryd.underlying3 rfl rfl (cell_at hB3 (Rec.at1 _))) ?_
          refine WL.eqlS (by decide) rfl rfl (fun h25 => ?_) (fun h25 => ?_)
          · skip
            refine WL.op (by decide) (R.move rfl) ?_
            refine WL.pass (by decide) rfl rfl rfl ?_
            refine WL.pass (by decide) rfl rfl rfl ?_
            refine WL.pass (by decide) rfl rfl rfl ?_
            refine WL.op (by decide) (R.pickT rfl rfl) ?_
            refine WL.op (by decide) (R.move rfl) ?_
            refine WL.pass (by decide) rfl rfl rfl ?_
            refine WL.pass (by decide) rfl rfl rfl ?_
            refine WL.pass (by decide) rfl rfl rfl ?_
            refine WL.op (by decide) (R.pickT rfl rfl) ?_
            refine WL.op (by decide) (R.assign rfl) ?_
            refine WL.next ?_
            refine CW.condT rfl ?_
            refine CW.rseq ?_
            refine WL.op (by decide) (R.move rfl) ?_
            refine WL.eff rfl (OP.call (by decide) Tryd.func46 (by kernel_rfl) (by kernel_rfl) rfl (rname_st rb _ m c bs a5 false _ hR hS (fun g o h => (hg g o h).1) hin9 hm) ?_)
            rintro ed w14 ⟨s2, a6, b6, rfl, hR, hc14, hn2, hs2l⟩
            refine ⟨_, rfl, ?_⟩
            have hC := hC.trans hc14
            have hS := hS.kept hc14 (fun g o h => (hg g o h).1)
            have hG := hG.kept hc14 (by omega)
            have hsz := Nat.le_trans hsz hc14.size
            have hB2 := hc14.at hB2 (by omega)
            have hB3 := hc14.at hB3 (by omega)
            refine WL.op (by decide) (FA57_4 rfl) ?_
            refine WL.eff rfl (OP.store1 sz9 rfl rfl rfl rfl hB3 (by rw [List.size_toArray, Rec.length rfl]; decide) rfl ?_)
            intro w15 hc15 hs15 hB3n
            have hB3 := hB3n
            rw [show (0 + 19 : Nat) = 19 from rfl, Rec.set19 rfl] at hB3
            have hC := hC.then hc15 (fun k hk e => by omega)
            have hG := hG.kept hc15 (by omega)
            have hS := hS.kept hc15 (fun g o h e => by have := hg g o h; omega)
            have hR := hc15.at hR (by omega)
            have hB2 := hc15.at hB2 (by omega)
            have hsz := Nat.le_trans hsz hc15.size
            refine WL.next ?_
            refine CW.rseq ?_
            refine WL.op (by decide) (R.move rfl) ?_
            refine WL.op (by decide) (R.nilCheck rfl) ?_
            refine WL.op (by decide) (FA100_1 rfl) ?_
            refine WL.op (by decide) (R.load Tryd.underlying3 rfl rfl (cell_at hR rfl)) ?_
            refine WL.op (by decide) (R.move rfl) ?_
            refine WL.neqS (by decide) rfl rfl (fun h26 => ?_) (fun h26 => ?_)
            · skip
              refine WL.next ?_
              refine CW.condT rfl ?_
              refine CW.region ?_
              refine WL.op (by decide) (R.move rfl) ?_
              refine WL.op (by decide) (R.nilCheck rfl) ?_
              refine WL.op (by decide) (FA100_2 rfl) ?_
              refine WL.eff rfl (OP.store1 sz4 rfl rfl rfl rfl hR (Nat.le_of_ble_eq_true rfl) rfl ?_)
              intro w16 hcs _ hR
              have hC := hC.trans hcs
              have hS := hS.kept hcs (fun g o h => (hg g o h).1)
              have hG := hG.kept hcs (by omega)
              have hsz := Nat.le_trans hsz hcs.size
              have hB2 := hcs.at hB2 (by omega)
              have hB3 := hcs.at hB3 (by omega)
              refine WL.nil ?_
              refine EW.inNormal ?_
              exact EW.cutK [0, 2, 3, 6] ⟨_, a6, true, rfl, rfl, ⟨hsl, Nat.le_trans hs2l (by decide), by simp⟩, hR, hC, hG, hsz, hB2, hB3, by rw [body_far (bs := bs) (nm := s) (ty := v2) (a := a5) (n := v5) (ttl := ttlOf v4) (by omega) hn2 (by omega)]; rfl⟩
            · skip
              refine WL.next ?_
              refine CW.condF rfl ?_
              refine CW.skip ?_
              refine EW.inNormal ?_
              exact EW.cutK [0, 2, 3, 6] ⟨_, a6, _, rfl, rfl, ⟨hsl, Nat.le_trans hs2l (by decide), by simp⟩, hR, hC, hG, hsz, hB2, hB3, body_near (bs := bs) (nm := s) (ty := v2) (a := a5) (n := v5) (ttl := ttlOf v4) (by omega) hn2 (by omega)⟩
          · skip
            refine WL.op (by decide) (R.move rfl) ?_
            refine WL.gop (by decide) rfl rfl rfl (FA57_1 rfl) ?_
            refine WL.gop (by decide) rfl rfl rfl (R.load (v := .int .i64 (v2 : Int)) Tryd.underlying3 rfl rfl (cell_at hB3 (Rec.at1 _))) ?_
            refine WL.gsplit _ (by decide) rfl rfl rfl (R.eqlD rfl rfl) (fun h27 => ?_) (fun h27 => ?_)
            · skip
              refine WL.op (by decide) (R.pickF rfl rfl) ?_
              refine WL.op (by decide) (R.move rfl) ?_
              refine WL.pass (by decide) rfl rfl rfl ?_
              refine WL.pass (by decide) rfl rfl rfl ?_
              refine WL.pass (by decide) rfl rfl rfl ?_
              refine WL.op (by decide) (R.pickT rfl rfl) ?_
              refine WL.op (by decide) (R.assign rfl) ?_
              refine WL.next ?_
              refine CW.condT rfl ?_
              refine CW.rseq ?_
              refine WL.op (by decide) (R.move rfl) ?_
              refine WL.eff rfl (OP.call (by decide) Tryd.func46 (by kernel_rfl) (by kernel_rfl) rfl (rname_st rb _ m c bs a5 false _ hR hS (fun g o h => (hg g o h).1) hin9 hm) ?_)
              rintro ed w14 ⟨s2, a6, b6, rfl, hR, hc14, hn2, hs2l⟩
              refine ⟨_, rfl, ?_⟩
              have hC := hC.trans hc14
              have hS := hS.kept hc14 (fun g o h => (hg g o h).1)
              have hG := hG.kept hc14 (by omega)
              have hsz := Nat.le_trans hsz hc14.size
              have hB2 := hc14.at hB2 (by omega)
              have hB3 := hc14.at hB3 (by omega)
              refine WL.op (by decide) (FA57_4 rfl) ?_
              refine WL.eff rfl (OP.store1 sz9 rfl rfl rfl rfl hB3 (by rw [List.size_toArray, Rec.length rfl]; decide) rfl ?_)
              intro w15 hc15 hs15 hB3n
              have hB3 := hB3n
              rw [show (0 + 19 : Nat) = 19 from rfl, Rec.set19 rfl] at hB3
              have hC := hC.then hc15 (fun k hk e => by omega)
              have hG := hG.kept hc15 (by omega)
              have hS := hS.kept hc15 (fun g o h e => by have := hg g o h; omega)
              have hR := hc15.at hR (by omega)
              have hB2 := hc15.at hB2 (by omega)
              have hsz := Nat.le_trans hsz hc15.size
              refine WL.next ?_
              refine CW.rseq ?_
              refine WL.op (by decide) (R.move rfl) ?_
              refine WL.op (by decide) (R.nilCheck rfl) ?_
              refine WL.op (by decide) (FA100_1 rfl) ?_
              refine WL.op (by decide) (R.load Tryd.underlying3 rfl rfl (cell_at hR rfl)) ?_
              refine WL.op (by decide) (R.move rfl) ?_
              refine WL.neqS (by decide) rfl rfl (fun h28 => ?_) (fun h28 => ?_)
              · skip
                refine WL.next ?_
                refine CW.condT rfl ?_
                refine CW.region ?_
                refine WL.op (by decide) (R.move rfl) ?_
                refine WL.op (by decide) (R.nilCheck rfl) ?_
                refine WL.op (by decide) (FA100_2 rfl) ?_
                refine WL.eff rfl (OP.store1 sz4 rfl rfl rfl rfl hR (Nat.le_of_ble_eq_true rfl) rfl ?_)
                intro w16 hcs _ hR
                have hC := hC.trans hcs
                have hS := hS.kept hcs (fun g o h => (hg g o h).1)
                have hG := hG.kept hcs (by omega)
                have hsz := Nat.le_trans hsz hcs.size
                have hB2 := hcs.at hB2 (by omega)
                have hB3 := hcs.at hB3 (by omega)
                refine WL.nil ?_
                refine EW.inNormal ?_
                exact EW.cutK [0, 2, 3, 6] ⟨_, a6, true, rfl, rfl, ⟨hsl, Nat.le_trans hs2l (by decide), by simp⟩, hR, hC, hG, hsz, hB2, hB3, by rw [body_far (bs := bs) (nm := s) (ty := v2) (a := a5) (n := v5) (ttl := ttlOf v4) (by omega) hn2 (by omega)]; rfl⟩
              · skip
                refine WL.next ?_
                refine CW.condF rfl ?_
                refine CW.skip ?_
                refine EW.inNormal ?_
                exact EW.cutK [0, 2, 3, 6] ⟨_, a6, _, rfl, rfl, ⟨hsl, Nat.le_trans hs2l (by decide), by simp⟩, hR, hC, hG, hsz, hB2, hB3, body_near (bs := bs) (nm := s) (ty := v2) (a := a5) (n := v5) (ttl := ttlOf v4) (by omega) hn2 (by omega)⟩
            · skip
              refine WL.op (by decide) (R.pickF rfl rfl) ?_
              refine WL.op (by decide) (R.move rfl) ?_
              refine WL.gop (by decide) rfl rfl rfl (FA57_1 rfl) ?_
              refine WL.gop (by decide) rfl rfl rfl (R.load (v := .int .i64 (v2 : Int)) Tryd.underlying3 rfl rfl (cell_at hB3 (Rec.at1 _))) ?_
              refine WL.gsplit _ (by decide) rfl rfl rfl (R.eqlD rfl rfl) (fun h29 => ?_) (fun h29 => ?_)
              · skip
                refine WL.op (by decide) (R.pickF rfl rfl) ?_
                refine WL.op (by decide) (R.assign rfl) ?_
                refine WL.next ?_
                refine CW.condT rfl ?_
                refine CW.rseq ?_
                refine WL.op (by decide) (R.move rfl) ?_
                refine WL.eff rfl (OP.call (by decide) Tryd.func46 (by kernel_rfl) (by kernel_rfl) rfl (rname_st rb _ m c bs a5 false _ hR hS (fun g o h => (hg g o h).1) hin9 hm) ?_)
                rintro ed w14 ⟨s2, a6, b6, rfl, hR, hc14, hn2, hs2l⟩
                refine ⟨_, rfl, ?_⟩
                have hC := hC.trans hc14
                have hS := hS.kept hc14 (fun g o h => (hg g o h).1)
                have hG := hG.kept hc14 (by omega)
                have hsz := Nat.le_trans hsz hc14.size
                have hB2 := hc14.at hB2 (by omega)
                have hB3 := hc14.at hB3 (by omega)
                refine WL.op (by decide) (FA57_4 rfl) ?_
                refine WL.eff rfl (OP.store1 sz9 rfl rfl rfl rfl hB3 (by rw [List.size_toArray, Rec.length rfl]; decide) rfl ?_)
                intro w15 hc15 hs15 hB3n
                have hB3 := hB3n
                rw [show (0 + 19 : Nat) = 19 from rfl, Rec.set19 rfl] at hB3
                have hC := hC.then hc15 (fun k hk e => by omega)
                have hG := hG.kept hc15 (by omega)
                have hS := hS.kept hc15 (fun g o h e => by have := hg g o h; omega)
                have hR := hc15.at hR (by omega)
                have hB2 := hc15.at hB2 (by omega)
                have hsz := Nat.le_trans hsz hc15.size
                refine WL.next ?_
                refine CW.rseq ?_
                refine WL.op (by decide) (R.move rfl) ?_
                refine WL.op (by decide) (R.nilCheck rfl) ?_
                refine WL.op (by decide) (FA100_1 rfl) ?_
                refine WL.op (by decide) (R.load Tryd.underlying3 rfl rfl (cell_at hR rfl)) ?_
                refine WL.op (by decide) (R.move rfl) ?_
                refine WL.neqS (by decide) rfl rfl (fun h30 => ?_) (fun h30 => ?_)
                · skip
                  refine WL.next ?_
                  refine CW.condT rfl ?_
                  refine CW.region ?_
                  refine WL.op (by decide) (R.move rfl) ?_
                  refine WL.op (by decide) (R.nilCheck rfl) ?_
                  refine WL.op (by decide) (FA100_2 rfl) ?_
                  refine WL.eff rfl (OP.store1 sz4 rfl rfl rfl rfl hR (Nat.le_of_ble_eq_true rfl) rfl ?_)
                  intro w16 hcs _ hR
                  have hC := hC.trans hcs
                  have hS := hS.kept hcs (fun g o h => (hg g o h).1)
                  have hG := hG.kept hcs (by omega)
                  have hsz := Nat.le_trans hsz hcs.size
                  have hB2 := hcs.at hB2 (by omega)
                  have hB3 := hcs.at hB3 (by omega)
                  refine WL.nil ?_
                  refine EW.inNormal ?_
                  exact EW.cutK [0, 2, 3, 6] ⟨_, a6, true, rfl, rfl, ⟨hsl, Nat.le_trans hs2l (by decide), by simp⟩, hR, hC, hG, hsz, hB2, hB3, by rw [body_far (bs := bs) (nm := s) (ty := v2) (a := a5) (n := v5) (ttl := ttlOf v4) (by omega) hn2 (by omega)]; rfl⟩
                · skip
                  refine WL.next ?_
                  refine CW.condF rfl ?_
                  refine CW.skip ?_
                  refine EW.inNormal ?_
                  exact EW.cutK [0, 2, 3, 6] ⟨_, a6, _, rfl, rfl, ⟨hsl, Nat.le_trans hs2l (by decide), by simp⟩, hR, hC, hG, hsz, hB2, hB3, body_near (bs := bs) (nm := s) (ty := v2) (a := a5) (n := v5) (ttl := ttlOf v4) (by omega) hn2 (by omega)⟩
              · skip
                refine WL.op (by decide) (R.pickF rfl rfl) ?_
                refine WL.op (by decide) (R.assign rfl) ?_
                refine WL.next ?_
                refine CW.condF rfl ?_
                refine CW.region ?_
                refine WL.op (by decide) (R.move rfl) ?_
                refine WL.op (by decide) (R.strOf (s := dat) rfl hdl hdat) ?_
                refine WL.op (by decide) (FA57_5 rfl) ?_
                refine WL.eff rfl (OP.store1 sz9 rfl rfl rfl rfl hB3 (by rw [List.size_toArray, Rec.length rfl]; decide) rfl ?_)
                intro w15 hc15 hs15 hB3n
                have hB3 := hB3n
                rw [show (0 + 20 : Nat) = 20 from rfl, Rec.set20 rfl] at hB3
                have hC := hC.then hc15 (fun k hk e => by omega)
                have hG := hG.kept hc15 (by omega)
                have hR := hc15.at hR (by omega)
                have hB2 := hc15.at hB2 (by omega)
                have hsz := Nat.le_trans hsz hc15.size
                refine WL.nil ?_
                refine EW.inNormal ?_
                exact EW.cutK [0, 2, 3, 6] ⟨_, a5, false, rfl, rfl, ⟨hsl, by simp, by show dat.length ≤ _; omega⟩, hR, hC, hG, hsz, hB2, hB3, by rw [body_other (bs := bs) (nm := s) (ty := v2) (a := a5) (n := v5) (ttl := ttlOf v4) (by omega) (by omega) (by omega)]; exact ⟨by rw [hdat0]; rfl, rfl⟩⟩
    · rintro l wr ⟨r, a', b', rfl, hr16, hsmall, hR, hC, hG, hsz, hB2, hB3, hres⟩
      refine CW.rseq ?_
      refine WL.op (by decide) (R.move rfl) ?_
      refine WL.op (by decide) (R.move rfl) ?_
      refine WL.op (by decide) (R.nilCheck rfl) ?_
      refine WL.op (by decide) (FA100_1 rfl) ?_
      refine WL.eff rfl (OP.store1 sz3 rfl rfl rfl rfl hR (Nat.le_of_ble_eq_true rfl) rfl ?_)
      intro w17 hc17 hs17 hRn
      have hR : RSt w17 rb (some ⟨g, o, none⟩) m c (a5 + v5) b' := hRn
      have hC := hC.trans hc17
      have hG := hG.kept hc17 (by omega)
      have hB2 := hc17.at hB2 (by omega)
      have hB3 := hc17.at hB3 (by omega)
      have hsz := Nat.le_trans hsz hc17.size
      refine WL.next ?_
      refine CW.seq ?_
      refine CW.rseq ?_
      refine WL.op (by decide) (R.loadRB hr16 rfl hB3) ?_
      refine WL.eff rfl (OP.call (by decide) Tryd.func41 (by kernel_rfl) (by kernel_rfl) rfl (mright_any r _ hr16 hG hsmall.1 hsmall.2.1 hsmall.2.2) ?_)
      rintro ed w18 ⟨rfl, hc18⟩
      refine ⟨_, rfl, ?_⟩
      have hC := hC.trans (hc18.mono (fun _ _ h => h.elim))
      have hR := hc18.at hR (fun h => h)
      have hB2 := hc18.at hB2 (fun h => h)
      have hB3 := hc18.at hB3 (fun h => h)
      have hsz := Nat.le_trans hsz hc18.size
      cases hr : rightR r
      · skip
        refine WL.op (by decide) (R.not rfl) ?_
        refine WL.next ?_
        refine CW.condT rfl ?_
        refine CW.region ?_
        refine WL.op (by decide) (R.move rfl) ?_
        refine WL.op (by decide) (R.nilCheck rfl) ?_
        refine WL.op (by decide) (FA100_2 rfl) ?_
        refine WL.eff rfl (OP.store1 sz4 rfl rfl rfl rfl hR (Nat.le_of_ble_eq_true rfl) rfl ?_)
        intro w19 hc19 hs19 hR
        have hC := hC.trans hc19
        have hB2 := hc19.at hB2 (by omega)
        have hB3 := hc19.at hB3 (by omega)
        have hsz := Nat.le_trans hsz hc19.size
        refine WL.nil ?_
        refine EW.next ?_
        refine CW.rseq ?_
        refine WL.op (by decide) (R.loadRB hr16 rfl hB3) ?_
        refine WL.eff rfl (OP.storeR rfl rfl hr16 rfl hB2 ?_)
        intro w20 hc20 hs20 hB2
        have hC := hC.then hc20 (fun k hk e => by omega)
        have hR := hc20.at hR (by omega)
        refine WL.next ?_
        refine CW.ret ?_
        exact EW.retC (.inl rfl) rfl rfl Tryd.underlying57 rfl (by rw [Rec.length hr16]; exact sz57) (fun j u hj => cell_at hB2 (by rw [List.getElem?_toArray]; exact hj)) ⟨r, a5 + v5, _, rfl, hr16, hR, hC, by rw [hbody]; exact rr_false hres hr, (fun _ => by omega), hsmall⟩
      · skip
        refine WL.op (by decide) (R.not rfl) ?_
        refine WL.next ?_
        refine CW.condF rfl ?_
        refine CW.skip ?_
        refine EW.next ?_
        refine CW.rseq ?_
        refine WL.op (by decide) (R.loadRB hr16 rfl hB3) ?_
        refine WL.eff rfl (OP.storeR rfl rfl hr16 rfl hB2 ?_)
        intro w20 hc20 hs20 hB2
        have hC := hC.then hc20 (fun k hk e => by omega)
        have hR := hc20.at hR (by omega)
        refine WL.next ?_
        refine CW.ret ?_
        exact EW.retC (.inl rfl) rfl rfl Tryd.underlying57 rfl (by rw [Rec.length hr16]; exact sz57) (fun j u hj => cell_at hB2 (by rw [List.getElem?_toArray]; exact hj)) ⟨r, a5 + v5, _, rfl, hr16, hR, hC, by rw [hbody]; exact rr_true hres hr, (fun _ => by omega), hsmall⟩
end Go.Proofs.YthcpjcgjmdfpjaaDoor

namespace Go.Proofs.YthcpjcgjmdfpjaaDoor
open Go Go.RowKit
set_option maxRecDepth 100000

/-- So many records, one behind the other. -/
def readRecs (bs : List UInt8) : Nat → Nat → Option (List Rec × Nat)
  | 0, a => some ([], a)
  | k + 1, a => match readRec bs a with
    | none => none
    | some (r, a1) => match readRecs bs k a1 with
      | none => none
      | some (rs, e) => some (r :: rs, e)
/-- What is to come, from a state of the reader. -/
def recsSt (bs : List UInt8) (k a : Nat) (b : Bool) (rs : List Rec) : Option (List Rec × Nat) :=
  if b = true then none else match readRecs bs k a with
    | none => none
    | some (q, e) => some (rs ++ q, e)
theorem recs_step {bs : List UInt8} {k a a2 : Nat} {b b2 : Bool} {rs : List Rec} {r : Rec} (h : RecRes (if b = true then none else readRec bs a) r a2 b2) : recsSt bs (k + 1) a b rs = recsSt bs k a2 b2 (rs ++ [r]) := by
  unfold recsSt
  cases b with
  | true => rw [if_pos rfl] at h; obtain rfl : b2 = true := h; rfl
  | false =>
    rw [if_neg (by simp)] at h ⊢
    cases hr : readRec bs a with
    | none => rw [hr] at h; obtain rfl : b2 = true := h; rw [readRecs, hr]; rfl
    | some p =>
      obtain ⟨r0, a0⟩ := p
      rw [hr] at h
      obtain ⟨rfl, rfl, rfl⟩ := h
      rw [if_neg (by simp), readRecs, hr]
      simp only
      cases readRecs bs k a2 with
      | none => rfl
      | some q => obtain ⟨q, e⟩ := q; simp
theorem recs_zero (bs : List UInt8) (a : Nat) (b : Bool) (rs : List Rec) : recsSt bs 0 a b rs = if b = true then none else some (rs, a) := by
  unfold recsSt
  simp [readRecs]

def finM (m : Msg) : Option Msg := if allM m then some m else none
/-- The message that bytes are. -/
def decode (bs : List UInt8) : Option Msg :=
  if bs.length < 12 then none
  else if 0 < beNat ((bs.drop 2).take 2) &&& 30720 then none
  else if beNat ((bs.drop 4).take 2) ≠ 1 then none
  else if 32 < beNat ((bs.drop 6).take 2) + beNat ((bs.drop 8).take 2) then none
  else match rdName bs 300 12 0 0 [] 12 with
    | none => none
    | some (nm, a) =>
      if bs.length < a + 4 then none
      else if beNat ((bs.drop (a + 2)).take 2) ≠ 1 then none
      else match readRecs bs (beNat ((bs.drop 6).take 2)) (a + 4) with
        | none => none
        | some (an, a2) => match readRecs bs (beNat ((bs.drop 8).take 2)) a2 with
          | none => none
          | some (au, _) => finM ⟨beNat (bs.take 2), decide (0 < beNat ((bs.drop 2).take 2) &&& 32768), decide (0 < beNat ((bs.drop 2).take 2) &&& 512), decide (0 < beNat ((bs.drop 2).take 2) &&& 256), ((beNat ((bs.drop 2).take 2) &&& 15 : Nat) : Int), nm, beNat ((bs.drop a).take 2), an, au⟩

section
variable {bs : List UInt8} {i f c0 c1 c2 c3 a1 a2 a3 a4 a5 a6 a7 a8 a9 v8 v9 : Nat} {b1 b2 b3 b4 b5 b6 b7 b8 b9 : Bool} {s : List UInt8}
/-- The head. -/
structure Hdr (bs : List UInt8) (i f c0 c1 c2 a6 : Nat) (b6 : Bool) : Prop where
  ok : b6 = false → 12 ≤ bs.length ∧ a6 = 12 ∧ i = beNat (bs.take 2) ∧ f = beNat ((bs.drop 2).take 2) ∧ c0 = beNat ((bs.drop 4).take 2) ∧ c1 = beNat ((bs.drop 6).take 2) ∧ c2 = beNat ((bs.drop 8).take 2)
  no : b6 = true → bs.length < 12
theorem num_step {bs : List UInt8} {n a v a' p : Nat} {b b' : Bool} (e : numR bs n a b = (v, a', b')) (h : (b = false → a = p ∧ p ≤ bs.length) ∧ (b = true → bs.length < p)) :
    ((b' = false → a' = p + n ∧ p + n ≤ bs.length) ∧ (b' = true → bs.length < p + n)) ∧ (b' = false → b = false ∧ v = beNat ((bs.drop p).take n)) := by
  rcases numR_cases e with ⟨rfl, _, rfl, h1⟩ | ⟨rfl, rfl, h1, rfl, rfl⟩
  · refine ⟨⟨fun h => (by cases h), fun _ => ?_⟩, fun h => (by cases h)⟩
    cases b with
    | true => have := h.2 rfl; omega
    | false =>
      have := h.1 rfl
      rcases h1 with h1 | h1
      · cases h1
      · omega
  · obtain ⟨rfl, h2⟩ := h.1 rfl
    exact ⟨⟨fun _ => ⟨rfl, h1⟩, fun h => (by cases h)⟩, fun _ => ⟨rfl, rfl⟩⟩
theorem hdr_of (e1 : numR bs 2 0 false = (i, a1, b1)) (e2 : numR bs 2 a1 b1 = (f, a2, b2)) (e3 : numR bs 2 a2 b2 = (c0, a3, b3)) (e4 : numR bs 2 a3 b3 = (c1, a4, b4)) (e5 : numR bs 2 a4 b4 = (c2, a5, b5)) (e6 : numR bs 2 a5 b5 = (c3, a6, b6)) : Hdr bs i f c0 c1 c2 a6 b6 := by
  obtain ⟨s1, v1⟩ := num_step (p := 0) e1 ⟨fun _ => ⟨rfl, by omega⟩, fun h => (by cases h)⟩
  obtain ⟨s2, v2⟩ := num_step e2 s1
  obtain ⟨s3, v3⟩ := num_step e3 s2
  obtain ⟨s4, v4⟩ := num_step e4 s3
  obtain ⟨s5, v5⟩ := num_step e5 s4
  obtain ⟨s6, v6⟩ := num_step e6 s5
  refine ⟨fun h => ?_, s6.2⟩
  obtain ⟨h5, _⟩ := v6 h
  obtain ⟨h4, w5⟩ := v5 h5
  obtain ⟨h3, w4⟩ := v4 h4
  obtain ⟨h2, w3⟩ := v3 h3
  obtain ⟨h1, w2⟩ := v2 h2
  obtain ⟨_, w1⟩ := v1 h1
  exact ⟨(s6.1 h).2, (s6.1 h).1, w1, w2, w3, w4, w5⟩
theorem dec_bad (h : Hdr bs i f c0 c1 c2 a6 b6) (hg : 0 < f &&& 30720 ∨ c0 ≠ 1 ∨ 32 < c1 + c2) : decode bs = none := by
  unfold decode
  cases b6 with
  | true => rw [if_pos (h.no rfl)]
  | false =>
    obtain ⟨hl, rfl, rfl, rfl, rfl, rfl, rfl⟩ := h.ok rfl
    rw [if_neg (by omega)]
    rcases hg with hg | hg | hg
    · rw [if_pos hg]
    · split <;> first | rfl | rw [if_pos hg]
    · split
      · rfl
      · split <;> first | rfl | rw [if_pos hg]
theorem dec_eq (h : Hdr bs i f c0 c1 c2 a6 b6) (hg1 : ¬ 0 < f &&& 30720) (hg2 : c0 = 1) (hg3 : ¬ 32 < c1 + c2) (h7 : if b6 = true then NameRes none s a7 b7 else NameRes (rdName bs 300 a6 0 0 [] a6) s a7 b7)
    (e8 : numR bs 2 a7 b7 = (v8, a8, b8)) (e9 : numR bs 2 a8 b8 = (v9, a9, b9)) :
    decode bs = match recsSt bs c1 a9 (b9 || decide (v9 ≠ 1)) [] with
      | none => none
      | some (an, a2) => match recsSt bs c2 a2 false [] with
        | none => none
        | some (au, _) => finM ⟨i, decide (0 < f &&& 32768), decide (0 < f &&& 512), decide (0 < f &&& 256), ((f &&& 15 : Nat) : Int), s, v8, an, au⟩ := by
  unfold decode
  cases b6 with
  | true =>
    rw [if_pos (h.no rfl)]
    rw [if_pos rfl] at h7
    obtain ⟨_, rfl⟩ := h7
    rcases numR_cases e8 with ⟨rfl, _, rfl, h8⟩ | ⟨rfl, q8, h8, rfl, rfl⟩
    · rcases numR_cases e9 with ⟨rfl, _, rfl, h9⟩ | ⟨rfl, q9, h9, rfl, rfl⟩
      · rfl
      · cases q9
    · cases q8
  | false =>
    obtain ⟨hl, rfl, rfl, rfl, rfl, rfl, rfl⟩ := h.ok rfl
    rw [if_neg (by omega), if_neg hg1, if_neg (by omega), if_neg hg3]
    rw [if_neg (by simp)] at h7
    cases hr : rdName bs 300 12 0 0 [] 12 with
    | none =>
      rw [hr] at h7
      obtain ⟨_, rfl⟩ := h7
      rcases numR_cases e8 with ⟨rfl, _, rfl, h8⟩ | ⟨rfl, q8, h8, rfl, rfl⟩
      · rcases numR_cases e9 with ⟨rfl, _, rfl, h9⟩ | ⟨rfl, q9, h9, rfl, rfl⟩
        · rfl
        · cases q9
      · cases q8
    | some p =>
      obtain ⟨nm, a⟩ := p
      rw [hr] at h7
      obtain ⟨rfl, rfl, rfl⟩ := h7
      simp only
      rcases numR_cases e8 with ⟨rfl, _, rfl, h8⟩ | ⟨rfl, q8, h8, rfl, rfl⟩
      · rcases numR_cases e9 with ⟨rfl, _, rfl, h9⟩ | ⟨rfl, q9, h9, rfl, rfl⟩
        · rw [if_pos (by simp at h8; omega)]; rfl
        · cases q9
      · rcases numR_cases e9 with ⟨rfl, _, rfl, h9⟩ | ⟨rfl, q9, h9, rfl, rfl⟩
        · rw [if_pos (by simp at h9; omega)]; rfl
        · rw [if_neg (by omega)]
          by_cases hc : beNat ((bs.drop (a7 + 2)).take 2) = 1
          · rw [if_neg (by simp [hc])]
            simp only [recsSt, hc, ne_eq, not_true, decide_false, Bool.or_false, Bool.false_eq_true, if_false, List.nil_append]
            rw [show a7 + 2 + 2 = a7 + 4 by omega]
            cases readRecs bs (beNat ((bs.drop 6).take 2)) (a7 + 4) with
            | none => rfl
            | some q =>
              obtain ⟨q, e⟩ := q
              simp only
              cases readRecs bs (beNat ((bs.drop 8).take 2)) e with
              | none => rfl
              | some q2 => obtain ⟨q2, e2⟩ := q2; rfl
          · rw [if_pos hc]
            simp [recsSt, hc]
end
theorem readRecs_ok {bs : List UInt8} : ∀ {k a : Nat} {rs : List Rec} {e : Nat}, readRecs bs k a = some (rs, e) → rs.length = k ∧ OkA rs ∧ rs.all rightR = true
  | 0, a, rs, e, h => by
    injection h with h; injection h with h1 h2; subst h1
    exact ⟨rfl, OkA.nil, rfl⟩
  | k + 1, a, rs, e, h => by
    rw [readRecs] at h
    cases hr : readRec bs a with
    | none => rw [hr] at h; cases h
    | some p =>
      obtain ⟨r, a1⟩ := p
      rw [hr] at h
      simp only at h
      cases hq : readRecs bs k a1 with
      | none => rw [hq] at h; cases h
      | some q =>
        obtain ⟨q, e1⟩ := q
        rw [hq] at h
        injection h with h; injection h with h1 h2; subst h1
        obtain ⟨i1, i2, i3⟩ := readRecs_ok hq
        obtain ⟨_, j2, j3⟩ := readRec_le hr
        refine ⟨by simp [i1], fun x hx => ?_, by simp [i3, j3]⟩
        rcases List.mem_cons.1 hx with rfl | hx
        · exact j2
        · exact i2 x hx
theorem decode_all {bs : List UInt8} {m : Msg} (h : decode bs = some m) : allM m = true := by
  unfold decode at h
  repeat' (split at h)
  all_goals first | cases h | skip
  all_goals (unfold finM at h; split at h)
  all_goals first | cases h; assumption | cases h

theorem binOp_andN (t : TypeId) (a b : Nat) (ha : a < 9223372036854775808) (hb : b < 9223372036854775808) : binOp .and t (.int .i64 (a : Int)) (.int .i64 (b : Int)) = pure (.int .i64 ((a &&& b : Nat) : Int)) := by
  simp only [binOp, Op.intBits, ne_eq, not_true, ite_false]
  have hbv : ∀ k : Nat, k < 18446744073709551616 → (BitVec.ofInt IntKind.i64.bits (k : Int)).toNat = k := by
    intro k hk
    show (BitVec.ofInt 64 (k : Int)).toNat = k
    simp; omega
  have e : (BitVec.ofInt IntKind.i64.bits (a : Int) &&& BitVec.ofInt IntKind.i64.bits (b : Int)).toNat = a &&& b := by
    rw [BitVec.toNat_and, hbv _ (by omega), hbv _ (by omega)]
  have hle : a &&& b ≤ a := Nat.and_le_left
  rw [e, IntWalk.i64_in _ (by omega)]
theorem R.andN {l : Env} {w : World} {x y : Operand} {t ty : TypeId} {P : Program} {a b : Nat} (hx : ev l x = some (.int .i64 (a : Int))) (hy : ev l y = some (.int .i64 (b : Int))) (ha : a < 9223372036854775808) (hb : b < 9223372036854775808) : Runs P l (.binOp .and t x y ty) w (.int .i64 ((a &&& b : Nat) : Int)) w :=
  R.bin hx hy (binOp_andN t a b ha hb)
theorem R.gtr0 {l : Env} {w : World} {x y : Operand} {t ty : TypeId} {P : Program} {a : Nat} (hx : ev l x = some (.int .i64 (a : Int))) (hy : ev l y = some (.int .i64 0)) : Runs P l (.binOp .gtr t x y ty) w (.bool (decide (0 < a))) w :=
  R.gtr hx hy (by by_cases h : 0 < a <;> simp [h])
end Go.Proofs.YthcpjcgjmdfpjaaDoor

namespace Go.Proofs.YthcpjcgjmdfpjaaDoor
open Go Go.RowKit
set_option maxRecDepth 100000
set_option maxHeartbeats 8000000

theorem build100_1 (A : Option Addr) (m c : Nat) (w : World) : (Instr.build 100 #[(0, .slice A m c)]).run Tryd.prog w = .ok (.agg #[.slice A m c, .int .i64 0, .bool false]) w := by kernel_rfl
theorem build33_1 (i : Int) (w : World) : (Instr.build 33 #[(0, .int .i64 i)]).run Tryd.prog w = .ok (.agg (Msg.cells ⟨i, false, false, false, 0, [], 0, [], []⟩ (.slice none 0 0) (.slice none 0 0)).toArray) w := by kernel_rfl
theorem build33_0 (w : World) : (Instr.build 33 #[]).run Tryd.prog w = .ok (.agg (Msg.cells ⟨0, false, false, false, 0, [], 0, [], []⟩ (.slice none 0 0) (.slice none 0 0)).toArray) w := by kernel_rfl
theorem build102 (a b c d : Int) (w : World) : (Instr.build 102 #[(0, .int .i64 a), (1, .int .i64 b), (2, .int .i64 c), (3, .int .i64 d)]).run Tryd.prog w = .ok (.agg #[.int .i64 a, .int .i64 b, .int .i64 c, .int .i64 d]) w := by kernel_rfl
theorem build25_2 (s : List UInt8) (t : Int) (w : World) : (Instr.build 25 #[(0, sv s), (1, .int .i64 t)]).run Tryd.prog w = .ok (.agg #[sv s, .int .i64 t]) w := by unfold sv; kernel_rfl
theorem inf33 : ∃ i, Tryd.prog.info? 33 = some i ∧ i.size = 9 := inf_of sz33
theorem inf102 : ∃ i, Tryd.prog.info? 102 = some i ∧ i.size = 4 := inf_of sz102
theorem m_all (m : Msg) (A : Option Addr) (n c : Nat) (B : Option Addr) (k d : Nat) : (m.cells (.slice A n c) (.slice B k d)).toArray.all (·.oneCell') = true := by
  rw [Array.all_eq_true_iff_forall_mem]
  intro u hu
  simp only [Msg.cells, List.mem_toArray, List.mem_cons, List.not_mem_nil, or_false] at hu
  rcases hu with rfl | rfl | rfl | rfl | rfl | rfl | rfl | rfl | rfl <;> rfl
theorem q_all (s : List UInt8) (t : Int) : (#[sv s, .int .i64 t] : Array Value).all (·.oneCell') = true := by
  rw [Array.all_eq_true_iff_forall_mem]
  intro u hu
  simp only [List.mem_toArray, List.mem_cons, List.not_mem_nil, or_false] at hu
  rcases hu with rfl | rfl <;> rfl
theorem c_all (a b c d : Int) : (#[.int .i64 a, .int .i64 b, .int .i64 c, .int .i64 d] : Array Value).all (·.oneCell') = true := by
  rw [Array.all_eq_true_iff_forall_mem]
  intro u hu
  simp only [List.mem_toArray, List.mem_cons, List.not_mem_nil, or_false] at hu
  rcases hu with rfl | rfl | rfl | rfl <;> rfl
theorem in_or {bs : List UInt8} {a : Nat} {b c : Bool} {v : Nat} (h : c = (b || decide (v ≠ 1))) (hi : In bs a b) : In bs a c := by
  intro hc
  cases b with
  | true => rw [hc] at h; simp at h
  | false => exact hi rfl
theorem cls_no {b : Bool} {v : Nat} (h : v ≠ 1) : true = (b || decide (v ≠ 1)) := by simp [h]
theorem cls_yes {b : Bool} {v : Nat} (h : v = 1) : b = (b || decide (v ≠ 1)) := by simp [h]
theorem small_snoc {rs : List Rec} {r : Rec} (h : ∀ x ∈ rs, x.small) (hr : r.small) : ∀ x ∈ rs ++ [r], x.small := by
  intro x hx
  rcases List.mem_append.1 hx with h1 | h1
  · exact h x h1
  · rw [List.mem_singleton.1 h1]; exact hr
theorem small_app {rs q : List Rec} (h : ∀ x ∈ rs, x.small) (hr : ∀ x ∈ q, x.small) : ∀ x ∈ rs ++ q, x.small := by
  intro x hx
  rcases List.mem_append.1 hx with h1 | h1
  · exact h x h1
  · exact hr x h1
section
variable {bs : List UInt8} {c1 c2 a9 a' a'' : Nat} {b10 b' : Bool} {rs rs2 : List Rec} {F : List Rec → List Rec → Option Msg} {M : Msg}
theorem dec_none {G : List Rec → List Rec → Msg} (hd : decode bs = match recsSt bs c1 a9 b10 [] with
      | none => none
      | some (an, a2) => match recsSt bs c2 a2 false [] with
        | none => none
        | some (au, _) => finM (G an au)) (h1 : recsSt bs c1 a9 b10 [] = if b' = true then none else some (rs, a')) (h2 : recsSt bs c2 a' b' [] = if true = true then none else some (rs2, a'')) : decode bs = none := by
  rw [hd, h1]
  cases b' with
  | true => rfl
  | false => rw [if_neg (by simp)]; simp only; rw [h2, if_pos rfl]
theorem dec_fin {G : List Rec → List Rec → Msg} (hd : decode bs = match recsSt bs c1 a9 b10 [] with
      | none => none
      | some (an, a2) => match recsSt bs c2 a2 false [] with
        | none => none
        | some (au, _) => finM (G an au)) (h1 : recsSt bs c1 a9 b10 [] = if b' = true then none else some (rs, a')) (h2 : recsSt bs c2 a' b' [] = if false = true then none else some (rs2, a'')) : decode bs = finM (G rs rs2) := by
  have hb : b' = false := by
    cases b' with
    | false => rfl
    | true => unfold recsSt at h2; rw [if_pos rfl, if_neg (by simp)] at h2; cases h2
  subst hb
  rw [hd, h1, if_neg (by simp)]; simp only; rw [h2, if_neg (by simp)]
end
theorem dec_notall {bs : List UInt8} {c1 c2 a9 a' a'' : Nat} {b10 b' : Bool} {rs rs2 : List Rec} {G : List Rec → List Rec → Msg} (hd : decode bs = match recsSt bs c1 a9 b10 [] with
      | none => none
      | some (an, a2) => match recsSt bs c2 a2 false [] with
        | none => none
        | some (au, _) => finM (G an au)) (h1 : recsSt bs c1 a9 b10 [] = if b' = true then none else some (rs, a')) (h2 : recsSt bs c2 a' b' [] = if false = true then none else some (rs2, a'')) (h : allM (G rs rs2) = false) : decode bs = none := by
  rw [dec_fin hd h1 h2, finM, h]; rfl
theorem dec_some {bs : List UInt8} {c1 c2 a9 a' a'' : Nat} {b10 b' : Bool} {rs rs2 : List Rec} {G : List Rec → List Rec → Msg} (hd : decode bs = match recsSt bs c1 a9 b10 [] with
      | none => none
      | some (an, a2) => match recsSt bs c2 a2 false [] with
        | none => none
        | some (au, _) => finM (G an au)) (h1 : recsSt bs c1 a9 b10 [] = if b' = true then none else some (rs, a')) (h2 : recsSt bs c2 a' b' [] = if false = true then none else some (rs2, a'')) (h : allM (G rs rs2) = true) : decode bs = some (G rs rs2) := by
  rw [dec_fin hd h1 h2, finM, h]; rfl

/-- A message's zero value. -/
def zeroMV : Value := .agg (Msg.cells ⟨0, false, false, false, 0, [], 0, [], []⟩ (.slice none 0 0) (.slice none 0 0)).toArray
/-- What Decode leaves. -/
def DecRes (base : Nat) (res : Option Msg) (e : Ending) (w : World) : Prop :=
  match res with
  | some m => ∃ v, e = .returned (.tuple #[v, .int .i64 0]) ∧ MVF base w v m
  | none => e = .returned (.tuple #[zeroMV, .int .i64 4])
theorem decode_any (A : Option Addr) (m c : Nat) (bs : List UInt8) (w : World) (hS : Src w A m c bs) (hgl : ∀ g o, A = some ⟨g, o, none⟩ → g < w.heap.size) (hm : m ≤ 1099511627776) (hG : Glob w) :
    Calls Tryd.prog 27 #[.slice A m c] w fun e w' => Chg (fun _ => False) w w' ∧ DecRes w.heap.size (decode bs) e w' := by
  have h0 : 0 < w.heap.size := World.block_lt_of_cell? w ⟨0, 0, none⟩ (hG 0 (u8v 0) rfl)
  refine calls_cw (args := [.slice A m c]) Tryd.func27 rfl rfl ?_
  show CW _ _ _ 106 [(0, .slice A m c)] w
  refine CW.rseq ?_
  refine WL.eff rfl (OP.alloc1 (.agg (Msg.cells ⟨0, false, false, false, 0, [], 0, [], []⟩ (.slice none 0 0) (.slice none 0 0)).toArray) (by decide) (by kernel_rfl) ?_)
  intro w1 hc1 hs1 hB2
  obtain ⟨br, he_br⟩ : ∃ b, b = w.heap.size := ⟨_, rfl⟩
  rw [← he_br] at hB2 ⊢
  have hC := hc1
  have hS := hS.kept hc1 (fun _ _ _ h => h)
  have hG := hG.kept hc1 (fun h => h)
  refine WL.op (by decide) (R.assign rfl) ?_
  refine WL.next ?_
  refine CW.rseq ?_
  refine WL.op (by decide) (R.move rfl) ?_
  refine WL.op (by decide) (R.build (parts := [(0, _)]) (vals := [(0, _)]) rfl (fun w => build100_1 _ _ _ w)) ?_
  refine WL.eff rfl (OP.box (by decide) rfl ?_)
  intro w2 hc2 hs2 hRn
  have hR : RSt w2 w1.heap.size A m c 0 false := hRn
  clear hRn
  obtain ⟨rb, he_rb⟩ : ∃ b, b = w1.heap.size := ⟨_, rfl⟩
  rw [← he_rb] at hR ⊢
  have hz := hc2.size
  have hC := hC.then hc2 (fun k hk e => e.elim)
  have hS := hS.kept hc2 (fun g o h e => e)
  have hG := hG.kept hc2 (fun e => e)
  have hB2 := hc2.at hB2 (fun e => e)
  refine WL.op (by decide) (R.assign rfl) ?_
  refine WL.next ?_
  refine CW.rseq ?_
  refine WL.op (by decide) (R.move rfl) ?_
  refine WL.eff rfl (OP.call (by decide) Tryd.func45 (by kernel_rfl) (by kernel_rfl) rfl (num_st rb A m c bs 2 _ _ _ hR hS (by decide) (by decide) (fun _ => by omega) hm) ?_)
  rintro ed w3 ⟨vi, a1, b1, e1, rfl, hR, hc3⟩
  refine ⟨_, rfl, ?_⟩
  have hin3 := numR_in e1
  have hlt3 := numR_lt2 e1
  have hz := hc3.size
  have hC := hC.then hc3 (fun k hk e => by omega)
  have hS := hS.kept hc3 (fun g o h e => by have := hgl g o h; omega)
  have hG := hG.kept hc3 (fun e => by omega)
  have hB2 := hc3.at hB2 (fun e => by omega)
  refine WL.op (by decide) (R.build (parts := [(0, _)]) (vals := [(0, _)]) rfl (fun w => build33_1 _ w)) ?_
  refine WL.eff rfl (OP.alloc1 (.agg (Msg.cells ⟨0, false, false, false, 0, [], 0, [], []⟩ (.slice none 0 0) (.slice none 0 0)).toArray) (by decide) (by kernel_rfl) ?_)
  intro w4 hc4 hs4 hBm
  obtain ⟨mb, he_mb⟩ : ∃ b, b = w3.heap.size := ⟨_, rfl⟩
  rw [← he_mb] at hBm ⊢
  have hR := hc4.at hR (fun h => h)
  have hz := hc4.size
  have hC := hC.then hc4 (fun k hk e => e.elim)
  have hS := hS.kept hc4 (fun g o h e => e)
  have hG := hG.kept hc4 (fun e => e)
  have hB2 := hc4.at hB2 (fun e => e)
  refine WL.eff rfl (OP.storeAgg inf33.choose_spec.1 (by rw [inf33.choose_spec.2]; rfl) rfl rfl (m_all _ _ _ _ _ _ _) hBm rfl ?_)
  intro w5 hc5 hs5 hBm
  have hR := hc5.at hR (by omega)
  have hz := hc5.size
  have hC := hC.then hc5 (fun k hk e => by omega)
  have hS := hS.kept hc5 (fun g o h e => by have := hgl g o h; omega)
  have hG := hG.kept hc5 (fun e => by omega)
  have hB2 := hc5.at hB2 (fun e => by omega)
  refine WL.next ?_
  refine CW.rseq ?_
  refine WL.op (by decide) (R.move rfl) ?_
  refine WL.eff rfl (OP.call (by decide) Tryd.func45 (by kernel_rfl) (by kernel_rfl) rfl (num_st rb A m c bs 2 _ _ _ hR hS (by decide) (by decide) hin3 hm) ?_)
  rintro ed w6 ⟨vf, a2, b2, e2, rfl, hR, hc6⟩
  refine ⟨_, rfl, ?_⟩
  have hin6 := numR_in e2
  have hlt6 := numR_lt2 e2
  have hz := hc6.size
  have hC := hC.then hc6 (fun k hk e => by omega)
  have hS := hS.kept hc6 (fun g o h e => by have := hgl g o h; omega)
  have hG := hG.kept hc6 (fun e => by omega)
  have hB2 := hc6.at hB2 (fun e => by omega)
  have hBm := hc6.at hBm (fun e => by omega)
  refine WL.op (by decide) (R.assign rfl) ?_
  refine WL.next ?_
  refine CW.rseq ?_
  refine WL.op (by decide) (R.move rfl) ?_
  refine WL.op (by decide) (R.andN (b := 32768) rfl rfl (by omega) (by decide)) ?_
  refine WL.op (by decide) (R.gtr0 rfl rfl) ?_
  refine WL.op (by decide) (R.move rfl) ?_
  refine WL.op (by decide) (R.andN (b := 512) rfl rfl (by omega) (by decide)) ?_
  refine WL.op (by decide) (R.gtr0 rfl rfl) ?_
  refine WL.op (by decide) (R.move rfl) ?_
  refine WL.op (by decide) (R.andN (b := 256) rfl rfl (by omega) (by decide)) ?_
  refine WL.op (by decide) (R.gtr0 rfl rfl) ?_
  refine WL.op (by decide) (R.move rfl) ?_
  refine WL.op (by decide) (R.andN (b := 15) rfl rfl (by omega) (by decide)) ?_
  refine WL.op (by decide) (FA33_1 rfl) ?_
  refine WL.eff rfl (OP.store1 sz4 rfl rfl rfl rfl hBm (Nat.le_of_ble_eq_true rfl) rfl ?_)
  intro w7 hc7 _ hBm
  have hR := hc7.at hR (by omega)
  have hz := hc7.size
  have hC := hC.then hc7 (fun k hk e => by omega)
  have hS := hS.kept hc7 (fun g o h e => by have := hgl g o h; omega)
  have hG := hG.kept hc7 (fun e => by omega)
  have hB2 := hc7.at hB2 (fun e => by omega)
  refine WL.op (by decide) (FA33_2 rfl) ?_
  refine WL.eff rfl (OP.store1 sz4 rfl rfl rfl rfl hBm (Nat.le_of_ble_eq_true rfl) rfl ?_)
  intro w8 hc8 _ hBm
  have hR := hc8.at hR (by omega)
  have hz := hc8.size
  have hC := hC.then hc8 (fun k hk e => by omega)
  have hS := hS.kept hc8 (fun g o h e => by have := hgl g o h; omega)
  have hG := hG.kept hc8 (fun e => by omega)
  have hB2 := hc8.at hB2 (fun e => by omega)
  refine WL.op (by decide) (FA33_3 rfl) ?_
  refine WL.eff rfl (OP.store1 sz4 rfl rfl rfl rfl hBm (Nat.le_of_ble_eq_true rfl) rfl ?_)
  intro w9 hc9 _ hBm
  have hR := hc9.at hR (by omega)
  have hz := hc9.size
  have hC := hC.then hc9 (fun k hk e => by omega)
  have hS := hS.kept hc9 (fun g o h e => by have := hgl g o h; omega)
  have hG := hG.kept hc9 (fun e => by omega)
  have hB2 := hc9.at hB2 (fun e => by omega)
  refine WL.op (by decide) (FA33_4 rfl) ?_
  refine WL.eff rfl (OP.store1 sz3 rfl rfl rfl rfl hBm (Nat.le_of_ble_eq_true rfl) rfl ?_)
  intro w10 hc10 _ hBmn
  have hBm : w10.heap[mb]? = some (.cells (Msg.cells ⟨(vi : Int), decide (0 < vf &&& 32768), decide (0 < vf &&& 512), decide (0 < vf &&& 256), ((vf &&& 15 : Nat) : Int), [], 0, [], []⟩ (.slice none 0 0) (.slice none 0 0)).toArray 33 (0, 0)) := hBmn
  have hR := hc10.at hR (by omega)
  have hz := hc10.size
  have hC := hC.then hc10 (fun k hk e => by omega)
  have hS := hS.kept hc10 (fun g o h e => by have := hgl g o h; omega)
  have hG := hG.kept hc10 (fun e => by omega)
  have hB2 := hc10.at hB2 (fun e => by omega)
  refine WL.next ?_
  refine CW.rseq ?_
  refine WL.op (by decide) (R.move rfl) ?_
  refine WL.eff rfl (OP.call (by decide) Tryd.func45 (by kernel_rfl) (by kernel_rfl) rfl (num_st rb A m c bs 2 _ _ _ hR hS (by decide) (by decide) hin6 hm) ?_)
  rintro ed w11 ⟨c0, a3, b3, e3, rfl, hR, hc11⟩
  refine ⟨_, rfl, ?_⟩
  have hin11 := numR_in e3
  have hlt11 := numR_lt2 e3
  have hz := hc11.size
  have hC := hC.then hc11 (fun k hk e => by omega)
  have hS := hS.kept hc11 (fun g o h e => by have := hgl g o h; omega)
  have hG := hG.kept hc11 (fun e => by omega)
  have hB2 := hc11.at hB2 (fun e => by omega)
  have hBm := hc11.at hBm (fun e => by omega)
  refine WL.op (by decide) (R.move rfl) ?_
  refine WL.eff rfl (OP.call (by decide) Tryd.func45 (by kernel_rfl) (by kernel_rfl) rfl (num_st rb A m c bs 2 _ _ _ hR hS (by decide) (by decide) hin11 hm) ?_)
  rintro ed w12 ⟨c1, a4, b4, e4, rfl, hR, hc12⟩
  refine ⟨_, rfl, ?_⟩
  have hin12 := numR_in e4
  have hlt12 := numR_lt2 e4
  have hz := hc12.size
  have hC := hC.then hc12 (fun k hk e => by omega)
  have hS := hS.kept hc12 (fun g o h e => by have := hgl g o h; omega)
  have hG := hG.kept hc12 (fun e => by omega)
  have hB2 := hc12.at hB2 (fun e => by omega)
  have hBm := hc12.at hBm (fun e => by omega)
  refine WL.op (by decide) (R.move rfl) ?_
  refine WL.eff rfl (OP.call (by decide) Tryd.func45 (by kernel_rfl) (by kernel_rfl) rfl (num_st rb A m c bs 2 _ _ _ hR hS (by decide) (by decide) hin12 hm) ?_)
  rintro ed w13 ⟨c2, a5, b5, e5, rfl, hR, hc13⟩
  refine ⟨_, rfl, ?_⟩
  have hin13 := numR_in e5
  have hlt13 := numR_lt2 e5
  have hz := hc13.size
  have hC := hC.then hc13 (fun k hk e => by omega)
  have hS := hS.kept hc13 (fun g o h e => by have := hgl g o h; omega)
  have hG := hG.kept hc13 (fun e => by omega)
  have hB2 := hc13.at hB2 (fun e => by omega)
  have hBm := hc13.at hBm (fun e => by omega)
  refine WL.op (by decide) (R.move rfl) ?_
  refine WL.eff rfl (OP.call (by decide) Tryd.func45 (by kernel_rfl) (by kernel_rfl) rfl (num_st rb A m c bs 2 _ _ _ hR hS (by decide) (by decide) hin13 hm) ?_)
  rintro ed w14 ⟨c3, a6, b6, e6, rfl, hR, hc14⟩
  refine ⟨_, rfl, ?_⟩
  have hin14 := numR_in e6
  have hlt14 := numR_lt2 e6
  have hz := hc14.size
  have hC := hC.then hc14 (fun k hk e => by omega)
  have hS := hS.kept hc14 (fun g o h e => by have := hgl g o h; omega)
  have hG := hG.kept hc14 (fun e => by omega)
  have hB2 := hc14.at hB2 (fun e => by omega)
  have hBm := hc14.at hBm (fun e => by omega)
  refine WL.op (by decide) (R.build (parts := [(0, _), (1, _), (2, _), (3, _)]) (vals := [(0, _), (1, _), (2, _), (3, _)]) rfl (fun w => build102 _ _ _ _ w)) ?_
  have hH := hdr_of e1 e2 e3 e4 e5 e6
  refine WL.eff rfl (OP.alloc1 (.agg #[.int .i64 0, .int .i64 0, .int .i64 0, .int .i64 0]) (by decide) (by kernel_rfl) ?_)
  intro w15 hc15 hs15 hBc
  obtain ⟨cb, he_cb⟩ : ∃ b, b = w14.heap.size := ⟨_, rfl⟩
  rw [← he_cb] at hBc ⊢
  have hR := hc15.at hR (fun h => h)
  have hz := hc15.size
  have hC := hC.then hc15 (fun k hk e => e.elim)
  have hS := hS.kept hc15 (fun g o h e => e)
  have hG := hG.kept hc15 (fun e => e)
  have hB2 := hc15.at hB2 (fun e => e)
  have hBm := hc15.at hBm (fun e => e)
  refine WL.eff rfl (OP.storeAgg inf102.choose_spec.1 (by rw [inf102.choose_spec.2]; rfl) rfl rfl (c_all _ _ _ _) hBc rfl ?_)
  intro w16 hc16 hs16 hBc
  have hR := hc16.at hR (by omega)
  have hz := hc16.size
  have hC := hC.then hc16 (fun k hk e => by omega)
  have hS := hS.kept hc16 (fun g o h e => by have := hgl g o h; omega)
  have hG := hG.kept hc16 (fun e => by omega)
  have hB2 := hc16.at hB2 (fun e => by omega)
  have hBm := hc16.at hBm (fun e => by omega)
  refine WL.next ?_
  refine CW.seq ?_
  refine CW.rseq ?_
  refine WL.op (by decide) (R.move rfl) ?_
  refine WL.op (by decide) (R.andN (b := 30720) rfl rfl (by omega) (by decide)) ?_
  refine WL.gtrS (by decide) rfl rfl (fun h1 => ?_) (fun h1 => ?_)
  · skip
    refine WL.op (by decide) (R.move rfl) ?_
    refine WL.pass (by decide) rfl rfl rfl ?_
    refine WL.pass (by decide) rfl rfl rfl ?_
    refine WL.pass (by decide) rfl rfl rfl ?_
    refine WL.op (by decide) (R.pickT rfl rfl) ?_
    refine WL.op (by decide) (R.move rfl) ?_
    refine WL.pass (by decide) rfl rfl rfl ?_
    refine WL.pass (by decide) rfl rfl rfl ?_
    refine WL.pass (by decide) rfl rfl rfl ?_
    refine WL.pass (by decide) rfl rfl rfl ?_
    refine WL.pass (by decide) rfl rfl rfl ?_
    refine WL.pass (by decide) rfl rfl rfl ?_
    refine WL.op (by decide) (R.pickT rfl rfl) ?_
    refine WL.next ?_
    refine CW.condT rfl ?_
    refine CW.rseq ?_
    refine WL.op (by decide) (R.build (parts := []) (vals := []) rfl (fun w => build33_0 w)) ?_
    refine WL.eff rfl (OP.storeAgg inf33.choose_spec.1 (by rw [inf33.choose_spec.2]; rfl) rfl rfl (m_all _ _ _ _ _ _ _) hB2 rfl ?_)
    intro w40 hc40 hs40 hB2
    have hC := hC.then hc40 (fun k hk e => by omega)
    refine WL.op (by decide) (R.assign rfl) ?_
    refine WL.next ?_
    refine CW.ret ?_
    refine EW.thenRet ?_
    have hd := dec_bad hH (by omega)
    exact EW.retCT (.inl rfl) rfl rfl rfl (cs := Msg.cells ⟨0, false, false, false, 0, [], 0, [], []⟩ (.slice none 0 0) (.slice none 0 0)) Tryd.underlying33 rfl sz33 (fun j u hj => cell_at hB2 (by rw [List.getElem?_toArray]; exact hj)) ⟨hC, by rw [hd]; rfl⟩
  · skip
    refine WL.op (by decide) (R.move rfl) ?_
    refine WL.gop (by decide) rfl rfl rfl (R.indexArr (i := 0) Tryd.underlying102 sz3 rfl rfl rfl (by decide)) ?_
    refine WL.gop (by decide) rfl rfl rfl (R.load Tryd.underlying3 rfl rfl (cell_at hBc rfl)) ?_
    refine WL.gsplit _ (by decide) rfl rfl rfl (R.neqD rfl rfl) (fun h2 => ?_) (fun h2 => ?_)
    · skip
      refine WL.op (by decide) (R.pickF rfl rfl) ?_
      refine WL.op (by decide) (R.move rfl) ?_
      refine WL.pass (by decide) rfl rfl rfl ?_
      refine WL.pass (by decide) rfl rfl rfl ?_
      refine WL.pass (by decide) rfl rfl rfl ?_
      refine WL.pass (by decide) rfl rfl rfl ?_
      refine WL.pass (by decide) rfl rfl rfl ?_
      refine WL.pass (by decide) rfl rfl rfl ?_
      refine WL.op (by decide) (R.pickT rfl rfl) ?_
      refine WL.next ?_
      refine CW.condT rfl ?_
      refine CW.rseq ?_
      refine WL.op (by decide) (R.build (parts := []) (vals := []) rfl (fun w => build33_0 w)) ?_
      refine WL.eff rfl (OP.storeAgg inf33.choose_spec.1 (by rw [inf33.choose_spec.2]; rfl) rfl rfl (m_all _ _ _ _ _ _ _) hB2 rfl ?_)
      intro w40 hc40 hs40 hB2
      have hC := hC.then hc40 (fun k hk e => by omega)
      refine WL.op (by decide) (R.assign rfl) ?_
      refine WL.next ?_
      refine CW.ret ?_
      refine EW.thenRet ?_
      have hd := dec_bad hH (by omega)
      exact EW.retCT (.inl rfl) rfl rfl rfl (cs := Msg.cells ⟨0, false, false, false, 0, [], 0, [], []⟩ (.slice none 0 0) (.slice none 0 0)) Tryd.underlying33 rfl sz33 (fun j u hj => cell_at hB2 (by rw [List.getElem?_toArray]; exact hj)) ⟨hC, by rw [hd]; rfl⟩
    · skip
      refine WL.op (by decide) (R.pickF rfl rfl) ?_
      refine WL.op (by decide) (R.move rfl) ?_
      refine WL.gop (by decide) rfl rfl rfl (R.indexArr (i := 1) Tryd.underlying102 sz3 rfl rfl rfl (by decide)) ?_
      refine WL.gop (by decide) rfl rfl rfl (R.load Tryd.underlying3 rfl rfl (cell_at hBc rfl)) ?_
      refine WL.gop (by decide) rfl rfl rfl (R.indexArr (i := 2) Tryd.underlying102 sz3 rfl rfl rfl (by decide)) ?_
      refine WL.gop (by decide) rfl rfl rfl (R.load Tryd.underlying3 rfl rfl (cell_at hBc rfl)) ?_
      refine WL.gop (by decide) rfl rfl rfl (R.add rfl rfl (by omega)) ?_
      refine WL.gsplit _ (by decide) rfl rfl rfl (R.gtrD rfl rfl) (fun h3 => ?_) (fun h3 => ?_)
      · skip
        refine WL.op (by decide) (R.pickF rfl rfl) ?_
        refine WL.next ?_
        refine CW.condT rfl ?_
        refine CW.rseq ?_
        refine WL.op (by decide) (R.build (parts := []) (vals := []) rfl (fun w => build33_0 w)) ?_
        refine WL.eff rfl (OP.storeAgg inf33.choose_spec.1 (by rw [inf33.choose_spec.2]; rfl) rfl rfl (m_all _ _ _ _ _ _ _) hB2 rfl ?_)
        intro w40 hc40 hs40 hB2
        have hC := hC.then hc40 (fun k hk e => by omega)
        refine WL.op (by decide) (R.assign rfl) ?_
        refine WL.next ?_
        refine CW.ret ?_
        refine EW.thenRet ?_
        have hd := dec_bad hH (by omega)
        exact EW.retCT (.inl rfl) rfl rfl rfl (cs := Msg.cells ⟨0, false, false, false, 0, [], 0, [], []⟩ (.slice none 0 0) (.slice none 0 0)) Tryd.underlying33 rfl sz33 (fun j u hj => cell_at hB2 (by rw [List.getElem?_toArray]; exact hj)) ⟨hC, by rw [hd]; rfl⟩
      · skip
        refine WL.op (by decide) (R.pickF rfl rfl) ?_
        refine WL.next ?_
        refine CW.condF rfl ?_
        refine CW.skip ?_
        refine EW.next ?_
        refine CW.rseq ?_
        refine WL.op (by decide) (R.move rfl) ?_
        refine WL.eff rfl (OP.call (by decide) Tryd.func46 (by kernel_rfl) (by kernel_rfl) rfl (rname_st rb A m c bs a6 b6 _ hR hS (fun g o h => by have := hgl g o h; omega) hin14 hm) ?_)
        rintro ed w17 ⟨s, a7, b7, rfl, hR, hc17, h7, hsl0⟩
        refine ⟨_, rfl, ?_⟩
        have hin17 := nres_in h7
        have hz := hc17.size
        have hC := hC.then hc17 (fun k hk e => by omega)
        have hS := hS.kept hc17 (fun g o h e => by have := hgl g o h; omega)
        have hG := hG.kept hc17 (fun e => by omega)
        have hB2 := hc17.at hB2 (fun e => by omega)
        have hBm := hc17.at hBm (fun e => by omega)
        have hBc := hc17.at hBc (fun e => by omega)
        refine WL.op (by decide) (R.move rfl) ?_
        refine WL.eff rfl (OP.call (by decide) Tryd.func45 (by kernel_rfl) (by kernel_rfl) rfl (num_st rb A m c bs 2 _ _ _ hR hS (by decide) (by decide) hin17 hm) ?_)
        rintro ed w18 ⟨v8, a8, b8, e8, rfl, hR, hc18⟩
        refine ⟨_, rfl, ?_⟩
        have hin18 := numR_in e8
        have hlt18 := numR_lt2 e8
        have hz := hc18.size
        have hC := hC.then hc18 (fun k hk e => by omega)
        have hS := hS.kept hc18 (fun g o h e => by have := hgl g o h; omega)
        have hG := hG.kept hc18 (fun e => by omega)
        have hB2 := hc18.at hB2 (fun e => by omega)
        have hBm := hc18.at hBm (fun e => by omega)
        have hBc := hc18.at hBc (fun e => by omega)
        refine WL.op (by decide) (R.build (parts := [(0, _), (1, _)]) (vals := [(0, _), (1, _)]) rfl (fun w => build25_2 _ _ w)) ?_
        refine WL.op (by decide) (FA33_5 rfl) ?_
        refine WL.eff rfl (OP.storeAt (s := 2) sz25 rfl rfl rfl (q_all _ _) hBm (Nat.le_of_ble_eq_true rfl) ?_)
        intro w19 hc19 hs19 hBmn
        have hBm : w19.heap[mb]? = some (.cells (Msg.cells ⟨(vi : Int), decide (0 < vf &&& 32768), decide (0 < vf &&& 512), decide (0 < vf &&& 256), ((vf &&& 15 : Nat) : Int), s, v8, [], []⟩ (.slice none 0 0) (.slice none 0 0)).toArray 33 (0, 0)) := hBmn
        have hR := hc19.at hR (by omega)
        have hz := hc19.size
        have hC := hC.then hc19 (fun k hk e => by omega)
        have hS := hS.kept hc19 (fun g o h e => by have := hgl g o h; omega)
        have hG := hG.kept hc19 (fun e => by omega)
        have hB2 := hc19.at hB2 (fun e => by omega)
        have hBc := hc19.at hBc (fun e => by omega)
        refine WL.next ?_
        refine CW.cut (fun l wr => ∃ (v9 a9 : Nat) (b9 b10 : Bool), numR bs 2 a8 b8 = (v9, a9, b9) ∧ In bs a9 b9 ∧ b10 = (b9 || decide (v9 ≠ 1)) ∧ l = [(2, .pointer (some ⟨br, 0, none⟩)), (3, .int .i64 0), (4, .pointer (some ⟨rb, 0, none⟩)), (5, .pointer (some ⟨mb, 0, none⟩)), (7, .pointer (some ⟨cb, 0, none⟩))] ∧ RSt wr rb A m c a9 b10 ∧ Chg (fun _ => False) w wr ∧ Src wr A m c bs ∧ Glob wr ∧ cb < wr.heap.size ∧ wr.heap[br]? = some (.cells (Msg.cells ⟨0, false, false, false, 0, [], 0, [], []⟩ (.slice none 0 0) (.slice none 0 0)).toArray 33 (0, 0)) ∧ wr.heap[mb]? = some (.cells (Msg.cells ⟨(vi : Int), decide (0 < vf &&& 32768), decide (0 < vf &&& 512), decide (0 < vf &&& 256), ((vf &&& 15 : Nat) : Int), s, v8, [], []⟩ (.slice none 0 0) (.slice none 0 0)).toArray 33 (0, 0)) ∧ wr.heap[cb]? = some (.cells #[.int .i64 (c0 : Nat), .int .i64 (c1 : Nat), .int .i64 (c2 : Nat), .int .i64 (c3 : Nat)] 102 (0, 0))) ?_ ?_
        ·
          refine CW.rseq ?_
          refine WL.op (by decide) (R.move rfl) ?_
          refine WL.eff rfl (OP.call (by decide) Tryd.func45 (by kernel_rfl) (by kernel_rfl) rfl (num_st rb A m c bs 2 _ _ _ hR hS (by decide) (by decide) hin18 hm) ?_)
          rintro ed w20 ⟨v9, a9, b9, e9, rfl, hR, hc20⟩
          refine ⟨_, rfl, ?_⟩
          have hin20 := numR_in e9
          have hlt20 := numR_lt2 e9
          have hz := hc20.size
          have hC := hC.then hc20 (fun k hk e => by omega)
          have hS := hS.kept hc20 (fun g o h e => by have := hgl g o h; omega)
          have hG := hG.kept hc20 (fun e => by omega)
          have hB2 := hc20.at hB2 (fun e => by omega)
          have hBm := hc20.at hBm (fun e => by omega)
          have hBc := hc20.at hBc (fun e => by omega)
          refine WL.op (by decide) (R.assign rfl) ?_
          refine WL.next ?_
          refine CW.rseq ?_
          refine WL.op (by decide) (R.move rfl) ?_
          refine WL.neqS (by decide) rfl rfl (fun h4 => ?_) (fun h4 => ?_)
          · skip
            refine WL.next ?_
            refine CW.condT rfl ?_
            refine CW.region ?_
            refine WL.op (by decide) (R.move rfl) ?_
            refine WL.op (by decide) (R.nilCheck rfl) ?_
            refine WL.op (by decide) (FA100_2 rfl) ?_
            refine WL.eff rfl (OP.store1 sz4 rfl rfl rfl rfl hR (Nat.le_of_ble_eq_true rfl) rfl ?_)
            intro w21 hc21 hs21 hR
            have hz := hc21.size
            have hC := hC.then hc21 (fun k hk e => by omega)
            have hS := hS.kept hc21 (fun g o h e => by have := hgl g o h; omega)
            have hG := hG.kept hc21 (fun e => by omega)
            have hB2 := hc21.at hB2 (fun e => by omega)
            have hBm := hc21.at hBm (fun e => by omega)
            have hBc := hc21.at hBc (fun e => by omega)
            refine WL.nil ?_
            exact EW.cutK [2, 3, 4, 5, 7] ⟨v9, a9, b9, _, e9, hin20, cls_no (by omega), rfl, hR, hC, hS, hG, by omega, hB2, hBm, hBc⟩
          · skip
            refine WL.next ?_
            refine CW.condF rfl ?_
            refine CW.skip ?_
            exact EW.cutK [2, 3, 4, 5, 7] ⟨v9, a9, b9, _, e9, hin20, cls_yes (by omega), rfl, hR, hC, hS, hG, by omega, hB2, hBm, hBc⟩
        · rintro l wr0 ⟨v9, a9, b9, b10, e9, hin20, hb10, rfl, hR, hC, hS, hG, hcbs, hB2, hBm, hBc⟩
          have hdec := dec_eq hH (by omega) (by omega) (by omega) h7 e8 e9
          rw [← hb10] at hdec
          have hin : In bs a9 b10 := in_or hb10 hin20
          refine CW.seq ?_
          refine CW.rseq ?_
          refine WL.op (by decide) (R.indexArr (i := 1) Tryd.underlying102 sz3 rfl rfl rfl (by decide)) ?_
          refine WL.op (by decide) (R.load Tryd.underlying3 rfl rfl (cell_at hBc rfl)) ?_
          refine WL.op (by decide) (R.move rfl) ?_
          refine WL.next ?_
          refine CW.block ?_
          obtain ⟨B1, he_B1⟩ : ∃ b, b = wr0.heap.size := ⟨_, rfl⟩
          refine CW.loopK [2, 3, 4, 5, 7, 72, 73] (fun k l wr => ∃ (i : Nat) (ii : Int) (v : Value) (q : List Rec) (a' : Nat) (b' : Bool), i + k = c1 ∧ ii = (i : Int) ∧ l = [(2, .pointer (some ⟨br, 0, none⟩)), (3, .int .i64 0), (4, .pointer (some ⟨rb, 0, none⟩)), (5, .pointer (some ⟨mb, 0, none⟩)), (7, .pointer (some ⟨cb, 0, none⟩)), (72, .int .i64 (c1 : Nat)), (73, .int .i64 ii)] ∧ RSt wr rb A m c a' b' ∧ In bs a' b' ∧ Chg (fun _ => False) w wr ∧ Src wr A m c bs ∧ Glob wr ∧ B1 ≤ wr.heap.size ∧ wr.heap[br]? = some (.cells (Msg.cells ⟨0, false, false, false, 0, [], 0, [], []⟩ (.slice none 0 0) (.slice none 0 0)).toArray 33 (0, 0)) ∧ wr.heap[mb]? = some (.cells (Msg.cells ⟨(vi : Int), decide (0 < vf &&& 32768), decide (0 < vf &&& 512), decide (0 < vf &&& 256), ((vf &&& 15 : Nat) : Int), s, v8, [], []⟩ v (.slice none 0 0)).toArray 33 (0, 0)) ∧ wr.heap[cb]? = some (.cells #[.int .i64 (c0 : Nat), .int .i64 (c1 : Nat), .int .i64 (c2 : Nat), .int .i64 (c3 : Nat)] 102 (0, 0)) ∧ RBuf wr B1 v q ∧ q.length = i ∧ (∀ r ∈ q, r.small) ∧ recsSt bs c1 a9 b10 [] = recsSt bs k a' b' q) (c1) ?_ ?_
          · exact ⟨0, 0, _, [], _, _, by omega, rfl, rfl, hR, hin, hC, hS, hG, by omega, hB2, hBm, hBc, RBuf.nil _ _, rfl, (fun _ h => by cases h), rfl⟩
          · rintro k l wr1 ⟨i1, ii, v, rs, a1', b1', hik, rfl, rfl, hR, hin, hC, hS, hG, hBs, hB2, hBm, hBc, hRB, hql, hqs, heq⟩
            refine CW.rseq ?_
            refine WL.lssS (by decide) rfl rfl (fun h5 => ?_) (fun h5 => ?_)
            · skip
              refine WL.next ?_
              refine CW.seq ?_
              refine CW.condT rfl ?_
              refine CW.skip ?_
              refine EW.next ?_
              refine CW.seq ?_
              refine CW.block ?_
              refine CW.draw (fun _ => True) (by kernel_rfl) ?_
              have hC := hC.trans (Chg.drew _ _)
              have hS := hS.kept (Chg.drew (fun _ => False) _) (fun _ _ _ h => h)
              have hG := hG.kept (Chg.drew (fun _ => False) _) (fun h => h)
              have hBs := Nat.le_trans hBs (Chg.drew (fun _ => False) _).size
              have hRB := hRB.kept (Chg.drew (fun _ => False) _) (fun _ _ h => h)
              refine AH.take 0 rfl (by kernel_rfl) (by kernel_rfl) (by kernel_rfl) (fun _ _ _ _ h => h) trivial (by decide) (fun w hS => FA33_6 rfl) ?_
              refine AH.take 2 rfl (by kernel_rfl) (by kernel_rfl) (by kernel_rfl) (fun _ _ _ _ h => h) trivial (by decide) (fun w hS => R.move rfl) ?_
              refine AH.either 1 3 (by kernel_rfl) rfl rfl rfl rfl ?_ ?_
              · skip
                refine (OP.val (by decide) (R.load Tryd.underlying31 rfl rfl (cell_at hBm rfl)) ?_)
                refine ⟨trivial, ?_⟩
                refine AH.eff 3 (by kernel_rfl) rfl rfl (OP.call (by decide) Tryd.func47 (by kernel_rfl) (by kernel_rfl) rfl (rrec_any rb A m c bs a1' b1' _ hR hS (fun g o h => by have := hgl g o h; have := hC.size; omega) hin hm hG (by omega)) ?_)
                rintro ed w20 ⟨r, ar, br2, rfl, hr16, hR, hc20, hres, hin2, hsm⟩
                refine ⟨_, rfl, trivial, ?_⟩
                have hz := hc20.size
                have hC := hC.then hc20 (fun k hk e => by omega)
                have hS := hS.kept hc20 (fun g o h e => by have := hgl g o h; omega)
                have hG := hG.kept hc20 (fun e => by omega)
                have hB2 := hc20.at hB2 (fun e => by omega)
                have hBm := hc20.at hBm (fun e => by omega)
                have hBc := hc20.at hBc (fun e => by omega)
                have hRB := hRB.kept hc20 (fun _ hk e => by have := hRB.lt _ hk; omega)
                refine AH.eff 4 (by kernel_rfl) rfl rfl (OP.buildSliceR (by decide) rfl hr16 ?_)
                intro w21 hc21 hs21 hb21
                refine ⟨trivial, ?_⟩
                have hR := hc21.at hR (fun e => e)
                have hz := hc21.size
                have hC := hC.then hc21 (fun k hk e => e.elim)
                have hS := hS.kept hc21 (fun g o h e => e)
                have hG := hG.kept hc21 (fun e => e)
                have hB2 := hc21.at hB2 (fun e => e)
                have hBm := hc21.at hBm (fun e => e)
                have hBc := hc21.at hBc (fun e => e)
                have hRB := hRB.kept hc21 (fun _ hk e => by have := hRB.lt _ hk; exact e)
                refine AH.eff 5 (by kernel_rfl) rfl rfl (OP.appendR (by decide) rfl rfl hRB hr16 hb21 (by omega) (by omega) ?_)
                intro v2 w22 hRBn hMv
                refine ⟨trivial, ?_⟩
                have hc22 := Chg.moved hMv
                have hR := hc22.at hR (fun e => by have := hRB.lt _ e.symm; omega)
                have hz := hc22.size
                have hC := hC.then hc22 (fun k hk e => by have := hRB.lt _ e.symm; omega)
                have hS := hS.kept hc22 (fun g o h e => by have := hgl g o h; have := hRB.lt _ e.symm; omega)
                have hG := hG.kept hc22 (fun e => by have := hRB.lt _ e.symm; omega)
                have hB2 := hc22.at hB2 (fun e => by have := hRB.lt _ e.symm; omega)
                have hBm := hc22.at hBm (fun e => by have := hRB.lt _ e.symm; omega)
                have hBc := hc22.at hBc (fun e => by have := hRB.lt _ e.symm; omega)
                have hRB := hRBn
                clear hRBn
                obtain ⟨A2, cc2, rfl, _⟩ := hRB.sl.form
                refine AH.eff 6 (by kernel_rfl) rfl rfl (OP.val (by decide) (FA33_6 rfl) ?_)
                refine ⟨trivial, ?_⟩
                refine AH.eff 7 (by kernel_rfl) rfl rfl (OP.store1 sz31 rfl rfl rfl rfl hBm (Nat.le_of_ble_eq_true rfl) rfl ?_)
                intro w23 hc23 hs23 hBmn
                refine ⟨trivial, ?_⟩
                have hR := hc23.at hR (by omega)
                have hz := hc23.size
                have hC := hC.then hc23 (fun k hk e => by omega)
                have hS := hS.kept hc23 (fun g o h e => by have := hgl g o h; omega)
                have hG := hG.kept hc23 (fun e => by omega)
                have hB2 := hc23.at hB2 (fun e => by omega)
                have hBc := hc23.at hBc (fun e => by omega)
                have hRB := hRB.kept hc23 (fun _ hk e => by have := hRB.lt _ hk; omega)
                have hBm : w23.heap[mb]? = some (.cells (Msg.cells ⟨(vi : Int), decide (0 < vf &&& 32768), decide (0 < vf &&& 512), decide (0 < vf &&& 256), ((vf &&& 15 : Nat) : Int), s, v8, [], []⟩ (.slice A2 (rs ++ [r]).length cc2) (.slice none 0 0)).toArray 33 (0, 0)) := hBmn
                refine AH.done (by kernel_rfl) ?_
                refine EW.inNormal ?_
                refine EW.next ?_
                refine CW.region ?_
                refine WL.op (by decide) (R.add rfl rfl (by omega)) ?_
                refine WL.op (by decide) (R.move rfl) ?_
                refine WL.nil ?_
                obtain ⟨k2, rfl⟩ : ∃ k2, k = k2 + 1 := ⟨k - 1, by omega⟩
                exact EW.roundK [2, 3, 4, 5, 7, 72, 73] k2 (by omega) ⟨i1 + 1, _, _, rs ++ [r], ar, br2, by omega, by omega, rfl, hR, hin2, hC, hS, hG, by omega, hB2, hBm, hBc, hRB, by rw [List.length_append, hql]; rfl, small_snoc hqs hsm, by rw [heq, recs_step hres]⟩
              · skip
                refine (OP.call (by decide) Tryd.func47 (by kernel_rfl) (by kernel_rfl) rfl (rrec_any rb A m c bs a1' b1' _ hR hS (fun g o h => by have := hgl g o h; have := hC.size; omega) hin hm hG (by omega)) ?_)
                rintro ed w20 ⟨r, ar, br2, rfl, hr16, hR, hc20, hres, hin2, hsm⟩
                refine ⟨_, rfl, trivial, ?_⟩
                have hz := hc20.size
                have hC := hC.then hc20 (fun k hk e => by omega)
                have hS := hS.kept hc20 (fun g o h e => by have := hgl g o h; omega)
                have hG := hG.kept hc20 (fun e => by omega)
                have hB2 := hc20.at hB2 (fun e => by omega)
                have hBm := hc20.at hBm (fun e => by omega)
                have hBc := hc20.at hBc (fun e => by omega)
                have hRB := hRB.kept hc20 (fun _ hk e => by have := hRB.lt _ hk; omega)
                refine AH.either 1 4 (by kernel_rfl) rfl rfl rfl rfl ?_ ?_
                · skip
                  refine (OP.val (by decide) (R.load Tryd.underlying31 rfl rfl (cell_at hBm rfl)) ?_)
                  refine ⟨trivial, ?_⟩
                  refine AH.eff 4 (by kernel_rfl) rfl rfl (OP.buildSliceR (by decide) rfl hr16 ?_)
                  intro w21 hc21 hs21 hb21
                  refine ⟨trivial, ?_⟩
                  have hR := hc21.at hR (fun e => e)
                  have hz := hc21.size
                  have hC := hC.then hc21 (fun k hk e => e.elim)
                  have hS := hS.kept hc21 (fun g o h e => e)
                  have hG := hG.kept hc21 (fun e => e)
                  have hB2 := hc21.at hB2 (fun e => e)
                  have hBm := hc21.at hBm (fun e => e)
                  have hBc := hc21.at hBc (fun e => e)
                  have hRB := hRB.kept hc21 (fun _ hk e => by have := hRB.lt _ hk; exact e)
                  refine AH.eff 5 (by kernel_rfl) rfl rfl (OP.appendR (by decide) rfl rfl hRB hr16 hb21 (by omega) (by omega) ?_)
                  intro v2 w22 hRBn hMv
                  refine ⟨trivial, ?_⟩
                  have hc22 := Chg.moved hMv
                  have hR := hc22.at hR (fun e => by have := hRB.lt _ e.symm; omega)
                  have hz := hc22.size
                  have hC := hC.then hc22 (fun k hk e => by have := hRB.lt _ e.symm; omega)
                  have hS := hS.kept hc22 (fun g o h e => by have := hgl g o h; have := hRB.lt _ e.symm; omega)
                  have hG := hG.kept hc22 (fun e => by have := hRB.lt _ e.symm; omega)
                  have hB2 := hc22.at hB2 (fun e => by have := hRB.lt _ e.symm; omega)
                  have hBm := hc22.at hBm (fun e => by have := hRB.lt _ e.symm; omega)
                  have hBc := hc22.at hBc (fun e => by have := hRB.lt _ e.symm; omega)
                  have hRB := hRBn
                  clear hRBn
                  obtain ⟨A2, cc2, rfl, _⟩ := hRB.sl.form
                  refine AH.eff 6 (by kernel_rfl) rfl rfl (OP.val (by decide) (FA33_6 rfl) ?_)
                  refine ⟨trivial, ?_⟩
                  refine AH.eff 7 (by kernel_rfl) rfl rfl (OP.store1 sz31 rfl rfl rfl rfl hBm (Nat.le_of_ble_eq_true rfl) rfl ?_)
                  intro w23 hc23 hs23 hBmn
                  refine ⟨trivial, ?_⟩
                  have hR := hc23.at hR (by omega)
                  have hz := hc23.size
                  have hC := hC.then hc23 (fun k hk e => by omega)
                  have hS := hS.kept hc23 (fun g o h e => by have := hgl g o h; omega)
                  have hG := hG.kept hc23 (fun e => by omega)
                  have hB2 := hc23.at hB2 (fun e => by omega)
                  have hBc := hc23.at hBc (fun e => by omega)
                  have hRB := hRB.kept hc23 (fun _ hk e => by have := hRB.lt _ hk; omega)
                  have hBm : w23.heap[mb]? = some (.cells (Msg.cells ⟨(vi : Int), decide (0 < vf &&& 32768), decide (0 < vf &&& 512), decide (0 < vf &&& 256), ((vf &&& 15 : Nat) : Int), s, v8, [], []⟩ (.slice A2 (rs ++ [r]).length cc2) (.slice none 0 0)).toArray 33 (0, 0)) := hBmn
                  refine AH.done (by kernel_rfl) ?_
                  refine EW.inNormal ?_
                  refine EW.next ?_
                  refine CW.region ?_
                  refine WL.op (by decide) (R.add rfl rfl (by omega)) ?_
                  refine WL.op (by decide) (R.move rfl) ?_
                  refine WL.nil ?_
                  obtain ⟨k2, rfl⟩ : ∃ k2, k = k2 + 1 := ⟨k - 1, by omega⟩
                  exact EW.roundK [2, 3, 4, 5, 7, 72, 73] k2 (by omega) ⟨i1 + 1, _, _, rs ++ [r], ar, br2, by omega, by omega, rfl, hR, hin2, hC, hS, hG, by omega, hB2, hBm, hBc, hRB, by rw [List.length_append, hql]; rfl, small_snoc hqs hsm, by rw [heq, recs_step hres]⟩
                · skip
                  refine (OP.buildSliceR (by decide) rfl hr16 ?_)
                  intro w21 hc21 hs21 hb21
                  refine ⟨trivial, ?_⟩
                  have hR := hc21.at hR (fun e => e)
                  have hz := hc21.size
                  have hC := hC.then hc21 (fun k hk e => e.elim)
                  have hS := hS.kept hc21 (fun g o h e => e)
                  have hG := hG.kept hc21 (fun e => e)
                  have hB2 := hc21.at hB2 (fun e => e)
                  have hBm := hc21.at hBm (fun e => e)
                  have hBc := hc21.at hBc (fun e => e)
                  have hRB := hRB.kept hc21 (fun _ hk e => by have := hRB.lt _ hk; exact e)
                  refine AH.eff 1 (by kernel_rfl) rfl rfl (OP.val (by decide) (R.load Tryd.underlying31 rfl rfl (cell_at hBm rfl)) ?_)
                  refine ⟨trivial, ?_⟩
                  refine AH.eff 5 (by kernel_rfl) rfl rfl (OP.appendR (by decide) rfl rfl hRB hr16 hb21 (by omega) (by omega) ?_)
                  intro v2 w22 hRBn hMv
                  refine ⟨trivial, ?_⟩
                  have hc22 := Chg.moved hMv
                  have hR := hc22.at hR (fun e => by have := hRB.lt _ e.symm; omega)
                  have hz := hc22.size
                  have hC := hC.then hc22 (fun k hk e => by have := hRB.lt _ e.symm; omega)
                  have hS := hS.kept hc22 (fun g o h e => by have := hgl g o h; have := hRB.lt _ e.symm; omega)
                  have hG := hG.kept hc22 (fun e => by have := hRB.lt _ e.symm; omega)
                  have hB2 := hc22.at hB2 (fun e => by have := hRB.lt _ e.symm; omega)
                  have hBm := hc22.at hBm (fun e => by have := hRB.lt _ e.symm; omega)
                  have hBc := hc22.at hBc (fun e => by have := hRB.lt _ e.symm; omega)
                  have hRB := hRBn
                  clear hRBn
                  obtain ⟨A2, cc2, rfl, _⟩ := hRB.sl.form
                  refine AH.eff 6 (by kernel_rfl) rfl rfl (OP.val (by decide) (FA33_6 rfl) ?_)
                  refine ⟨trivial, ?_⟩
                  refine AH.eff 7 (by kernel_rfl) rfl rfl (OP.store1 sz31 rfl rfl rfl rfl hBm (Nat.le_of_ble_eq_true rfl) rfl ?_)
                  intro w23 hc23 hs23 hBmn
                  refine ⟨trivial, ?_⟩
                  have hR := hc23.at hR (by omega)
                  have hz := hc23.size
                  have hC := hC.then hc23 (fun k hk e => by omega)
                  have hS := hS.kept hc23 (fun g o h e => by have := hgl g o h; omega)
                  have hG := hG.kept hc23 (fun e => by omega)
                  have hB2 := hc23.at hB2 (fun e => by omega)
                  have hBc := hc23.at hBc (fun e => by omega)
                  have hRB := hRB.kept hc23 (fun _ hk e => by have := hRB.lt _ hk; omega)
                  have hBm : w23.heap[mb]? = some (.cells (Msg.cells ⟨(vi : Int), decide (0 < vf &&& 32768), decide (0 < vf &&& 512), decide (0 < vf &&& 256), ((vf &&& 15 : Nat) : Int), s, v8, [], []⟩ (.slice A2 (rs ++ [r]).length cc2) (.slice none 0 0)).toArray 33 (0, 0)) := hBmn
                  refine AH.done (by kernel_rfl) ?_
                  refine EW.inNormal ?_
                  refine EW.next ?_
                  refine CW.region ?_
                  refine WL.op (by decide) (R.add rfl rfl (by omega)) ?_
                  refine WL.op (by decide) (R.move rfl) ?_
                  refine WL.nil ?_
                  obtain ⟨k2, rfl⟩ : ∃ k2, k = k2 + 1 := ⟨k - 1, by omega⟩
                  exact EW.roundK [2, 3, 4, 5, 7, 72, 73] k2 (by omega) ⟨i1 + 1, _, _, rs ++ [r], ar, br2, by omega, by omega, rfl, hR, hin2, hC, hS, hG, by omega, hB2, hBm, hBc, hRB, by rw [List.length_append, hql]; rfl, small_snoc hqs hsm, by rw [heq, recs_step hres]⟩
            · skip
              refine WL.next ?_
              refine CW.seq ?_
              refine CW.condF rfl ?_
              refine CW.exit ?_
              obtain rfl : k = 0 := by omega
              rw [recs_zero] at heq
              have hRA := hRB.sl
              have hRAlt := hRB.lt
              obtain ⟨Aa, ca, rfl, _⟩ := hRA.form
              have hqsA := hqs
              obtain ⟨B2, he_B2⟩ : ∃ b, b = wr1.heap.size := ⟨_, rfl⟩
              refine EW.thenExit ?_
              refine EW.thenExit ?_
              refine EW.inHere ?_
              refine EW.next ?_
              refine CW.seq ?_
              refine CW.rseq ?_
              refine WL.op (by decide) (R.indexArr (i := 2) Tryd.underlying102 sz3 rfl rfl rfl (by decide)) ?_
              refine WL.op (by decide) (R.load Tryd.underlying3 rfl rfl (cell_at hBc rfl)) ?_
              refine WL.op (by decide) (R.move rfl) ?_
              refine WL.next ?_
              refine CW.block ?_
              refine CW.loopK [2, 3, 4, 5, 7, 84, 85] (fun k l wr => ∃ (i : Nat) (ii : Int) (v : Value) (q : List Rec) (a' : Nat) (b' : Bool), i + k = c2 ∧ ii = (i : Int) ∧ l = [(2, .pointer (some ⟨br, 0, none⟩)), (3, .int .i64 0), (4, .pointer (some ⟨rb, 0, none⟩)), (5, .pointer (some ⟨mb, 0, none⟩)), (7, .pointer (some ⟨cb, 0, none⟩)), (84, .int .i64 (c2 : Nat)), (85, .int .i64 ii)] ∧ RSt wr rb A m c a' b' ∧ In bs a' b' ∧ Chg (fun _ => False) w wr ∧ Src wr A m c bs ∧ Glob wr ∧ B2 ≤ wr.heap.size ∧ wr.heap[br]? = some (.cells (Msg.cells ⟨0, false, false, false, 0, [], 0, [], []⟩ (.slice none 0 0) (.slice none 0 0)).toArray 33 (0, 0)) ∧ wr.heap[mb]? = some (.cells (Msg.cells ⟨(vi : Int), decide (0 < vf &&& 32768), decide (0 < vf &&& 512), decide (0 < vf &&& 256), ((vf &&& 15 : Nat) : Int), s, v8, [], []⟩ (.slice Aa rs.length ca) v).toArray 33 (0, 0)) ∧ wr.heap[cb]? = some (.cells #[.int .i64 (c0 : Nat), .int .i64 (c1 : Nat), .int .i64 (c2 : Nat), .int .i64 (c3 : Nat)] 102 (0, 0)) ∧ RBuf wr B2 v q ∧ q.length = i ∧ (∀ r ∈ q, r.small) ∧ recsSt bs c2 a1' b1' [] = recsSt bs k a' b' q ∧ RSl wr (.slice Aa rs.length ca) rs) (c2) ?_ ?_
              · exact ⟨0, 0, _, [], _, _, by omega, rfl, rfl, hR, hin, hC, hS, hG, by omega, hB2, hBm, hBc, RBuf.nil _ _, rfl, (fun _ h => by cases h), rfl, hRA⟩
              · rintro kk l wr2 ⟨i2, ii, v, rs2, a2', b2', hik, rfl, rfl, hR, hin, hC, hS, hG, hBs, hB2, hBm, hBc, hRB, hql, hqs, heq2, hRA⟩
                refine CW.rseq ?_
                refine WL.lssS (by decide) rfl rfl (fun h6 => ?_) (fun h6 => ?_)
                · skip
                  refine WL.next ?_
                  refine CW.seq ?_
                  refine CW.condT rfl ?_
                  refine CW.skip ?_
                  refine EW.next ?_
                  refine CW.seq ?_
                  refine CW.block ?_
                  refine CW.draw (fun _ => True) (by kernel_rfl) ?_
                  have hC := hC.trans (Chg.drew _ _)
                  have hS := hS.kept (Chg.drew (fun _ => False) _) (fun _ _ _ h => h)
                  have hG := hG.kept (Chg.drew (fun _ => False) _) (fun h => h)
                  have hBs := Nat.le_trans hBs (Chg.drew (fun _ => False) _).size
                  have hRB := hRB.kept (Chg.drew (fun _ => False) _) (fun _ _ h => h)
                  have hRA := hRA.kept (Chg.drew (fun _ => False) _) (fun _ _ h => h)
                  refine AH.take 0 rfl (by kernel_rfl) (by kernel_rfl) (by kernel_rfl) (fun _ _ _ _ h => h) trivial (by decide) (fun w hS => FA33_7 rfl) ?_
                  refine AH.take 2 rfl (by kernel_rfl) (by kernel_rfl) (by kernel_rfl) (fun _ _ _ _ h => h) trivial (by decide) (fun w hS => R.move rfl) ?_
                  refine AH.either 1 3 (by kernel_rfl) rfl rfl rfl rfl ?_ ?_
                  · skip
                    refine (OP.val (by decide) (R.load Tryd.underlying31 rfl rfl (cell_at hBm rfl)) ?_)
                    refine ⟨trivial, ?_⟩
                    refine AH.eff 3 (by kernel_rfl) rfl rfl (OP.call (by decide) Tryd.func47 (by kernel_rfl) (by kernel_rfl) rfl (rrec_any rb A m c bs a2' b2' _ hR hS (fun g o h => by have := hgl g o h; have := hC.size; omega) hin hm hG (by omega)) ?_)
                    rintro ed w20 ⟨r, ar, br2, rfl, hr16, hR, hc20, hres, hin2, hsm⟩
                    refine ⟨_, rfl, trivial, ?_⟩
                    have hz := hc20.size
                    have hC := hC.then hc20 (fun k hk e => by omega)
                    have hS := hS.kept hc20 (fun g o h e => by have := hgl g o h; omega)
                    have hG := hG.kept hc20 (fun e => by omega)
                    have hB2 := hc20.at hB2 (fun e => by omega)
                    have hBm := hc20.at hBm (fun e => by omega)
                    have hBc := hc20.at hBc (fun e => by omega)
                    have hRB := hRB.kept hc20 (fun _ hk e => by have := hRB.lt _ hk; omega)
                    have hRA := hRA.kept hc20 (fun _ hk e => by have := hRAlt _ hk; omega)
                    refine AH.eff 4 (by kernel_rfl) rfl rfl (OP.buildSliceR (by decide) rfl hr16 ?_)
                    intro w21 hc21 hs21 hb21
                    refine ⟨trivial, ?_⟩
                    have hR := hc21.at hR (fun e => e)
                    have hz := hc21.size
                    have hC := hC.then hc21 (fun k hk e => e.elim)
                    have hS := hS.kept hc21 (fun g o h e => e)
                    have hG := hG.kept hc21 (fun e => e)
                    have hB2 := hc21.at hB2 (fun e => e)
                    have hBm := hc21.at hBm (fun e => e)
                    have hBc := hc21.at hBc (fun e => e)
                    have hRB := hRB.kept hc21 (fun _ hk e => by have := hRB.lt _ hk; exact e)
                    have hRA := hRA.kept hc21 (fun _ hk e => by have := hRAlt _ hk; exact e)
                    refine AH.eff 5 (by kernel_rfl) rfl rfl (OP.appendR (by decide) rfl rfl hRB hr16 hb21 (by omega) (by omega) ?_)
                    intro v2 w22 hRBn hMv
                    refine ⟨trivial, ?_⟩
                    have hc22 := Chg.moved hMv
                    have hR := hc22.at hR (fun e => by have := hRB.lt _ e.symm; omega)
                    have hz := hc22.size
                    have hC := hC.then hc22 (fun k hk e => by have := hRB.lt _ e.symm; omega)
                    have hS := hS.kept hc22 (fun g o h e => by have := hgl g o h; have := hRB.lt _ e.symm; omega)
                    have hG := hG.kept hc22 (fun e => by have := hRB.lt _ e.symm; omega)
                    have hB2 := hc22.at hB2 (fun e => by have := hRB.lt _ e.symm; omega)
                    have hBm := hc22.at hBm (fun e => by have := hRB.lt _ e.symm; omega)
                    have hBc := hc22.at hBc (fun e => by have := hRB.lt _ e.symm; omega)
                    have hRA := hRA.kept hc22 (fun _ hk e => by have := hRAlt _ hk; have := hRB.lt _ e.symm; omega)
                    have hRB := hRBn
                    clear hRBn
                    obtain ⟨A2, cc2, rfl, _⟩ := hRB.sl.form
                    refine AH.eff 6 (by kernel_rfl) rfl rfl (OP.val (by decide) (FA33_7 rfl) ?_)
                    refine ⟨trivial, ?_⟩
                    refine AH.eff 7 (by kernel_rfl) rfl rfl (OP.store1 sz31 rfl rfl rfl rfl hBm (Nat.le_of_ble_eq_true rfl) rfl ?_)
                    intro w23 hc23 hs23 hBmn
                    refine ⟨trivial, ?_⟩
                    have hR := hc23.at hR (by omega)
                    have hz := hc23.size
                    have hC := hC.then hc23 (fun k hk e => by omega)
                    have hS := hS.kept hc23 (fun g o h e => by have := hgl g o h; omega)
                    have hG := hG.kept hc23 (fun e => by omega)
                    have hB2 := hc23.at hB2 (fun e => by omega)
                    have hBc := hc23.at hBc (fun e => by omega)
                    have hRB := hRB.kept hc23 (fun _ hk e => by have := hRB.lt _ hk; omega)
                    have hRA := hRA.kept hc23 (fun _ hk e => by have := hRAlt _ hk; omega)
                    have hBm : w23.heap[mb]? = some (.cells (Msg.cells ⟨(vi : Int), decide (0 < vf &&& 32768), decide (0 < vf &&& 512), decide (0 < vf &&& 256), ((vf &&& 15 : Nat) : Int), s, v8, [], []⟩ (.slice Aa rs.length ca) (.slice A2 (rs2 ++ [r]).length cc2)).toArray 33 (0, 0)) := hBmn
                    refine AH.done (by kernel_rfl) ?_
                    refine EW.inNormal ?_
                    refine EW.next ?_
                    refine CW.region ?_
                    refine WL.op (by decide) (R.add rfl rfl (by omega)) ?_
                    refine WL.op (by decide) (R.move rfl) ?_
                    refine WL.nil ?_
                    obtain ⟨k2, rfl⟩ : ∃ k2, kk = k2 + 1 := ⟨kk - 1, by omega⟩
                    exact EW.roundK [2, 3, 4, 5, 7, 84, 85] k2 (by omega) ⟨i2 + 1, _, _, rs2 ++ [r], ar, br2, by omega, by omega, rfl, hR, hin2, hC, hS, hG, by omega, hB2, hBm, hBc, hRB, by rw [List.length_append, hql]; rfl, small_snoc hqs hsm, by rw [heq2, recs_step hres], hRA⟩
                  · skip
                    refine (OP.call (by decide) Tryd.func47 (by kernel_rfl) (by kernel_rfl) rfl (rrec_any rb A m c bs a2' b2' _ hR hS (fun g o h => by have := hgl g o h; have := hC.size; omega) hin hm hG (by omega)) ?_)
                    rintro ed w20 ⟨r, ar, br2, rfl, hr16, hR, hc20, hres, hin2, hsm⟩
                    refine ⟨_, rfl, trivial, ?_⟩
                    have hz := hc20.size
                    have hC := hC.then hc20 (fun k hk e => by omega)
                    have hS := hS.kept hc20 (fun g o h e => by have := hgl g o h; omega)
                    have hG := hG.kept hc20 (fun e => by omega)
                    have hB2 := hc20.at hB2 (fun e => by omega)
                    have hBm := hc20.at hBm (fun e => by omega)
                    have hBc := hc20.at hBc (fun e => by omega)
                    have hRB := hRB.kept hc20 (fun _ hk e => by have := hRB.lt _ hk; omega)
                    have hRA := hRA.kept hc20 (fun _ hk e => by have := hRAlt _ hk; omega)
                    refine AH.either 1 4 (by kernel_rfl) rfl rfl rfl rfl ?_ ?_
                    · skip
                      refine (OP.val (by decide) (R.load Tryd.underlying31 rfl rfl (cell_at hBm rfl)) ?_)
                      refine ⟨trivial, ?_⟩
                      refine AH.eff 4 (by kernel_rfl) rfl rfl (OP.buildSliceR (by decide) rfl hr16 ?_)
                      intro w21 hc21 hs21 hb21
                      refine ⟨trivial, ?_⟩
                      have hR := hc21.at hR (fun e => e)
                      have hz := hc21.size
                      have hC := hC.then hc21 (fun k hk e => e.elim)
                      have hS := hS.kept hc21 (fun g o h e => e)
                      have hG := hG.kept hc21 (fun e => e)
                      have hB2 := hc21.at hB2 (fun e => e)
                      have hBm := hc21.at hBm (fun e => e)
                      have hBc := hc21.at hBc (fun e => e)
                      have hRB := hRB.kept hc21 (fun _ hk e => by have := hRB.lt _ hk; exact e)
                      have hRA := hRA.kept hc21 (fun _ hk e => by have := hRAlt _ hk; exact e)
                      refine AH.eff 5 (by kernel_rfl) rfl rfl (OP.appendR (by decide) rfl rfl hRB hr16 hb21 (by omega) (by omega) ?_)
                      intro v2 w22 hRBn hMv
                      refine ⟨trivial, ?_⟩
                      have hc22 := Chg.moved hMv
                      have hR := hc22.at hR (fun e => by have := hRB.lt _ e.symm; omega)
                      have hz := hc22.size
                      have hC := hC.then hc22 (fun k hk e => by have := hRB.lt _ e.symm; omega)
                      have hS := hS.kept hc22 (fun g o h e => by have := hgl g o h; have := hRB.lt _ e.symm; omega)
                      have hG := hG.kept hc22 (fun e => by have := hRB.lt _ e.symm; omega)
                      have hB2 := hc22.at hB2 (fun e => by have := hRB.lt _ e.symm; omega)
                      have hBm := hc22.at hBm (fun e => by have := hRB.lt _ e.symm; omega)
                      have hBc := hc22.at hBc (fun e => by have := hRB.lt _ e.symm; omega)
                      have hRA := hRA.kept hc22 (fun _ hk e => by have := hRAlt _ hk; have := hRB.lt _ e.symm; omega)
                      have hRB := hRBn
                      clear hRBn
                      obtain ⟨A2, cc2, rfl, _⟩ := hRB.sl.form
                      refine AH.eff 6 (by kernel_rfl) rfl rfl (OP.val (by decide) (FA33_7 rfl) ?_)
                      refine ⟨trivial, ?_⟩
                      refine AH.eff 7 (by kernel_rfl) rfl rfl (OP.store1 sz31 rfl rfl rfl rfl hBm (Nat.le_of_ble_eq_true rfl) rfl ?_)
                      intro w23 hc23 hs23 hBmn
                      refine ⟨trivial, ?_⟩
                      have hR := hc23.at hR (by omega)
                      have hz := hc23.size
                      have hC := hC.then hc23 (fun k hk e => by omega)
                      have hS := hS.kept hc23 (fun g o h e => by have := hgl g o h; omega)
                      have hG := hG.kept hc23 (fun e => by omega)
                      have hB2 := hc23.at hB2 (fun e => by omega)
                      have hBc := hc23.at hBc (fun e => by omega)
                      have hRB := hRB.kept hc23 (fun _ hk e => by have := hRB.lt _ hk; omega)
                      have hRA := hRA.kept hc23 (fun _ hk e => by have := hRAlt _ hk; omega)
                      have hBm : w23.heap[mb]? = some (.cells (Msg.cells ⟨(vi : Int), decide (0 < vf &&& 32768), decide (0 < vf &&& 512), decide (0 < vf &&& 256), ((vf &&& 15 : Nat) : Int), s, v8, [], []⟩ (.slice Aa rs.length ca) (.slice A2 (rs2 ++ [r]).length cc2)).toArray 33 (0, 0)) := hBmn
                      refine AH.done (by kernel_rfl) ?_
                      refine EW.inNormal ?_
                      refine EW.next ?_
                      refine CW.region ?_
                      refine WL.op (by decide) (R.add rfl rfl (by omega)) ?_
                      refine WL.op (by decide) (R.move rfl) ?_
                      refine WL.nil ?_
                      obtain ⟨k2, rfl⟩ : ∃ k2, kk = k2 + 1 := ⟨kk - 1, by omega⟩
                      exact EW.roundK [2, 3, 4, 5, 7, 84, 85] k2 (by omega) ⟨i2 + 1, _, _, rs2 ++ [r], ar, br2, by omega, by omega, rfl, hR, hin2, hC, hS, hG, by omega, hB2, hBm, hBc, hRB, by rw [List.length_append, hql]; rfl, small_snoc hqs hsm, by rw [heq2, recs_step hres], hRA⟩
                    · skip
                      refine (OP.buildSliceR (by decide) rfl hr16 ?_)
                      intro w21 hc21 hs21 hb21
                      refine ⟨trivial, ?_⟩
                      have hR := hc21.at hR (fun e => e)
                      have hz := hc21.size
                      have hC := hC.then hc21 (fun k hk e => e.elim)
                      have hS := hS.kept hc21 (fun g o h e => e)
                      have hG := hG.kept hc21 (fun e => e)
                      have hB2 := hc21.at hB2 (fun e => e)
                      have hBm := hc21.at hBm (fun e => e)
                      have hBc := hc21.at hBc (fun e => e)
                      have hRB := hRB.kept hc21 (fun _ hk e => by have := hRB.lt _ hk; exact e)
                      have hRA := hRA.kept hc21 (fun _ hk e => by have := hRAlt _ hk; exact e)
                      refine AH.eff 1 (by kernel_rfl) rfl rfl (OP.val (by decide) (R.load Tryd.underlying31 rfl rfl (cell_at hBm rfl)) ?_)
                      refine ⟨trivial, ?_⟩
                      refine AH.eff 5 (by kernel_rfl) rfl rfl (OP.appendR (by decide) rfl rfl hRB hr16 hb21 (by omega) (by omega) ?_)
                      intro v2 w22 hRBn hMv
                      refine ⟨trivial, ?_⟩
                      have hc22 := Chg.moved hMv
                      have hR := hc22.at hR (fun e => by have := hRB.lt _ e.symm; omega)
                      have hz := hc22.size
                      have hC := hC.then hc22 (fun k hk e => by have := hRB.lt _ e.symm; omega)
                      have hS := hS.kept hc22 (fun g o h e => by have := hgl g o h; have := hRB.lt _ e.symm; omega)
                      have hG := hG.kept hc22 (fun e => by have := hRB.lt _ e.symm; omega)
                      have hB2 := hc22.at hB2 (fun e => by have := hRB.lt _ e.symm; omega)
                      have hBm := hc22.at hBm (fun e => by have := hRB.lt _ e.symm; omega)
                      have hBc := hc22.at hBc (fun e => by have := hRB.lt _ e.symm; omega)
                      have hRA := hRA.kept hc22 (fun _ hk e => by have := hRAlt _ hk; have := hRB.lt _ e.symm; omega)
                      have hRB := hRBn
                      clear hRBn
                      obtain ⟨A2, cc2, rfl, _⟩ := hRB.sl.form
                      refine AH.eff 6 (by kernel_rfl) rfl rfl (OP.val (by decide) (FA33_7 rfl) ?_)
                      refine ⟨trivial, ?_⟩
                      refine AH.eff 7 (by kernel_rfl) rfl rfl (OP.store1 sz31 rfl rfl rfl rfl hBm (Nat.le_of_ble_eq_true rfl) rfl ?_)
                      intro w23 hc23 hs23 hBmn
                      refine ⟨trivial, ?_⟩
                      have hR := hc23.at hR (by omega)
                      have hz := hc23.size
                      have hC := hC.then hc23 (fun k hk e => by omega)
                      have hS := hS.kept hc23 (fun g o h e => by have := hgl g o h; omega)
                      have hG := hG.kept hc23 (fun e => by omega)
                      have hB2 := hc23.at hB2 (fun e => by omega)
                      have hBc := hc23.at hBc (fun e => by omega)
                      have hRB := hRB.kept hc23 (fun _ hk e => by have := hRB.lt _ hk; omega)
                      have hRA := hRA.kept hc23 (fun _ hk e => by have := hRAlt _ hk; omega)
                      have hBm : w23.heap[mb]? = some (.cells (Msg.cells ⟨(vi : Int), decide (0 < vf &&& 32768), decide (0 < vf &&& 512), decide (0 < vf &&& 256), ((vf &&& 15 : Nat) : Int), s, v8, [], []⟩ (.slice Aa rs.length ca) (.slice A2 (rs2 ++ [r]).length cc2)).toArray 33 (0, 0)) := hBmn
                      refine AH.done (by kernel_rfl) ?_
                      refine EW.inNormal ?_
                      refine EW.next ?_
                      refine CW.region ?_
                      refine WL.op (by decide) (R.add rfl rfl (by omega)) ?_
                      refine WL.op (by decide) (R.move rfl) ?_
                      refine WL.nil ?_
                      obtain ⟨k2, rfl⟩ : ∃ k2, kk = k2 + 1 := ⟨kk - 1, by omega⟩
                      exact EW.roundK [2, 3, 4, 5, 7, 84, 85] k2 (by omega) ⟨i2 + 1, _, _, rs2 ++ [r], ar, br2, by omega, by omega, rfl, hR, hin2, hC, hS, hG, by omega, hB2, hBm, hBc, hRB, by rw [List.length_append, hql]; rfl, small_snoc hqs hsm, by rw [heq2, recs_step hres], hRA⟩
                · skip
                  refine WL.next ?_
                  refine CW.seq ?_
                  refine CW.condF rfl ?_
                  refine CW.exit ?_
                  obtain rfl : kk = 0 := by omega
                  rw [recs_zero] at heq2
                  obtain ⟨Ab, cb2, rfl, _⟩ := hRB.sl.form
                  refine EW.thenExit ?_
                  refine EW.thenExit ?_
                  refine EW.inHere ?_
                  refine EW.next ?_
                  refine CW.seq ?_
                  refine CW.rseq ?_
                  refine WL.op (by decide) (R.move rfl) ?_
                  refine WL.op (by decide) (R.nilCheck rfl) ?_
                  refine WL.op (by decide) (FA100_2 rfl) ?_
                  cases b2'
                  · skip
                    refine WL.op (by decide) (R.load Tryd.underlying4 rfl rfl (cell_at hR rfl)) ?_
                    refine WL.op (by decide) (R.move rfl) ?_
                    refine WL.gop (by decide) rfl rfl rfl (R.loadAgg1 (cs := Msg.cells ⟨(vi : Int), decide (0 < vf &&& 32768), decide (0 < vf &&& 512), decide (0 < vf &&& 256), ((vf &&& 15 : Nat) : Int), s, v8, rs, rs2⟩ (.slice Aa rs.length ca) (.slice Ab rs2.length cb2)) Tryd.underlying33 rfl sz33 rfl (fun j u hj => cell_at hBm (by rw [Nat.zero_add, List.getElem?_toArray]; exact hj))) ?_
                    refine WL.geff rfl rfl rfl (OP.call (by decide) Tryd.func30 (by kernel_rfl) (by kernel_rfl) rfl (all_any ⟨(vi : Int), decide (0 < vf &&& 32768), decide (0 < vf &&& 512), decide (0 < vf &&& 256), ((vf &&& 15 : Nat) : Int), s, v8, rs, rs2⟩ _ _ ⟨_, _, rfl, hRA, hRB.sl⟩ hG ⟨by show s.length ≤ _; omega, by show rs.length ≤ _; omega, by show rs2.length ≤ _; omega, small_app hqsA hqs⟩) ?_)
                    rintro ed w30 ⟨rfl, hc30⟩
                    refine ⟨_, rfl, ?_⟩
                    have hz := hc30.size
                    have hC := hC.then hc30 (fun k hk e => e.elim)
                    have hS := hS.kept hc30 (fun g o h e => e)
                    have hG := hG.kept hc30 (fun e => e)
                    have hB2 := hc30.at hB2 (fun e => e)
                    have hBm := hc30.at hBm (fun e => e)
                    have hRA := hRA.kept hc30 (fun _ _ e => e)
                    have hRB := hRB.kept hc30 (fun _ _ e => e)
                    cases hall : allM ⟨(vi : Int), decide (0 < vf &&& 32768), decide (0 < vf &&& 512), decide (0 < vf &&& 256), ((vf &&& 15 : Nat) : Int), s, v8, rs, rs2⟩
                    · skip
                      refine WL.gop (by decide) rfl rfl rfl (R.not rfl) ?_
                      refine WL.op (by decide) (R.pickF rfl rfl) ?_
                      refine WL.next ?_
                      refine CW.condT rfl ?_
                      refine CW.rseq ?_
                      refine WL.op (by decide) (R.build (parts := []) (vals := []) rfl (fun w => build33_0 w)) ?_
                      refine WL.eff rfl (OP.storeAgg inf33.choose_spec.1 (by rw [inf33.choose_spec.2]; rfl) rfl rfl (m_all _ _ _ _ _ _ _) hB2 rfl ?_)
                      intro w40 hc40 hs40 hB2
                      have hC := hC.then hc40 (fun k hk e => by omega)
                      refine WL.op (by decide) (R.assign rfl) ?_
                      refine WL.next ?_
                      refine CW.ret ?_
                      refine EW.thenRet ?_
                      have hd : decode bs = none := dec_notall hdec heq heq2 hall
                      exact EW.retCT (.inl rfl) rfl rfl rfl (cs := Msg.cells ⟨0, false, false, false, 0, [], 0, [], []⟩ (.slice none 0 0) (.slice none 0 0)) Tryd.underlying33 rfl sz33 (fun j u hj => cell_at hB2 (by rw [List.getElem?_toArray]; exact hj)) ⟨hC, by rw [hd]; rfl⟩
                    · skip
                      refine WL.gop (by decide) rfl rfl rfl (R.not rfl) ?_
                      refine WL.op (by decide) (R.pickF rfl rfl) ?_
                      refine WL.next ?_
                      refine CW.condF rfl ?_
                      refine CW.skip ?_
                      refine EW.next ?_
                      refine CW.rseq ?_
                      refine WL.op (by decide) (R.loadAgg1 (cs := Msg.cells ⟨(vi : Int), decide (0 < vf &&& 32768), decide (0 < vf &&& 512), decide (0 < vf &&& 256), ((vf &&& 15 : Nat) : Int), s, v8, rs, rs2⟩ (.slice Aa rs.length ca) (.slice Ab rs2.length cb2)) Tryd.underlying33 rfl sz33 rfl (fun j u hj => cell_at hBm (by rw [Nat.zero_add, List.getElem?_toArray]; exact hj))) ?_
                      refine WL.eff rfl (OP.storeAgg inf33.choose_spec.1 (by rw [inf33.choose_spec.2]; rfl) rfl rfl (m_all _ _ _ _ _ _ _) hB2 rfl ?_)
                      intro w40 hc40 hs40 hB2
                      have hC := hC.then hc40 (fun k hk e => by omega)
                      refine WL.op (by decide) (R.assign rfl) ?_
                      refine WL.next ?_
                      refine CW.ret ?_
                      have hd := dec_some hdec heq heq2 hall
                      exact EW.retCT (.inl rfl) rfl rfl rfl (cs := Msg.cells ⟨(vi : Int), decide (0 < vf &&& 32768), decide (0 < vf &&& 512), decide (0 < vf &&& 256), ((vf &&& 15 : Nat) : Int), s, v8, rs, rs2⟩ (.slice Aa rs.length ca) (.slice Ab rs2.length cb2)) Tryd.underlying33 rfl sz33 (fun j u hj => cell_at hB2 (by rw [List.getElem?_toArray]; exact hj)) ⟨hC, by rw [hd]; exact ⟨_, rfl, _, _, rfl, hRA.kept hc40 (fun _ _ e => by have := hRAlt _ (by assumption); omega), (hRB.sl).kept hc40 (fun k hk e => by have := hRB.lt k hk; omega), fun k hk => by have := hRAlt k hk; omega, fun k hk => by have := hRB.lt k hk; omega⟩⟩
                  · skip
                    refine WL.op (by decide) (R.load Tryd.underlying4 rfl rfl (cell_at hR rfl)) ?_
                    refine WL.op (by decide) (R.move rfl) ?_
                    refine WL.pass (by decide) rfl rfl rfl ?_
                    refine WL.pass (by decide) rfl rfl rfl ?_
                    refine WL.pass (by decide) rfl rfl rfl ?_
                    refine WL.op (by decide) (R.pickT rfl rfl) ?_
                    refine WL.next ?_
                    refine CW.condT rfl ?_
                    refine CW.rseq ?_
                    refine WL.op (by decide) (R.build (parts := []) (vals := []) rfl (fun w => build33_0 w)) ?_
                    refine WL.eff rfl (OP.storeAgg inf33.choose_spec.1 (by rw [inf33.choose_spec.2]; rfl) rfl rfl (m_all _ _ _ _ _ _ _) hB2 rfl ?_)
                    intro w40 hc40 hs40 hB2
                    have hC := hC.then hc40 (fun k hk e => by omega)
                    refine WL.op (by decide) (R.assign rfl) ?_
                    refine WL.next ?_
                    refine CW.ret ?_
                    refine EW.thenRet ?_
                    have hd : decode bs = none := dec_none hdec heq heq2
                    exact EW.retCT (.inl rfl) rfl rfl rfl (cs := Msg.cells ⟨0, false, false, false, 0, [], 0, [], []⟩ (.slice none 0 0) (.slice none 0 0)) Tryd.underlying33 rfl sz33 (fun j u hj => cell_at hB2 (by rw [List.getElem?_toArray]; exact hj)) ⟨hC, by rw [hd]; rfl⟩
end Go.Proofs.YthcpjcgjmdfpjaaDoor
