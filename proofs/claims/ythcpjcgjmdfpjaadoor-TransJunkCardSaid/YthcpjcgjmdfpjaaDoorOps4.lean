/- More operations at this program: elements of arrays, stores of parts, comparisons of bools and errors. -/
import Derived.Test.YthcpjcgjmdfpjaaDoorRecMem
namespace Go.Proofs.YthcpjcgjmdfpjaaDoor
open Go Go.RowKit
set_option maxRecDepth 100000
section
variable {l : Env} {w : World} {x y z : Operand} {t ty e : TypeId} {v : Value} {b o : Nat}

/-- An element of one cell, of an array's value. -/
theorem R.index1 {n i : Nat} {k : IntKind} {j : Int} {cs : Array Value} {d : TypeDesc} (ht : Tryd.prog.underlying t = some (.array n e)) (he : Tryd.prog.underlying e = some d) (hd : isAggD d = false) (hs : (Tryd.prog.info? e).map (·.size) = some 1)
    (hx : ev l x = some (.agg cs)) (hy : ev l y = some (.int k j)) (hj : j = (i : Int)) (hi : i < n) (hv : cs[i]? = some v) : Runs Tryd.prog l (.index t x y) w v w := fun r _ _ _ _ _ he' => by
  subst hj
  obtain ⟨inf, hi', hz⟩ := inf_of hs
  have h1 : (0 : Int) ≤ (i : Int) ∧ (i : Int) < (n : Int) := by omega
  have hp := run_part1 (P := Tryd.prog) he hd (cs := cs) (i := i) hv w
  simp only [execOp, he' x _ hx, he' y _ hy, Instr.index, asIntOf, Sem.run_bind, Sem.run_pure, Result.andThen_ok, run_underlying ht, if_pos h1, sizeOf, typeInfo, run_program, hi', hz, Int.toNat_natCast, Nat.mul_one, hp]
/-- An element of several cells. -/
theorem R.indexN {n i s : Nat} {k : IntKind} {j : Int} {cs : Array Value} {d : TypeDesc} (ht : Tryd.prog.underlying t = some (.array n e)) (he : Tryd.prog.underlying e = some d) (hd : isAggD d = true) (hs : (Tryd.prog.info? e).map (·.size) = some s)
    (hx : ev l x = some (.agg cs)) (hy : ev l y = some (.int k j)) (hj : j = (i : Int)) (hi : i < n) : Runs Tryd.prog l (.index t x y) w (.agg (cs.extract (i * s) (i * s + s))) w := fun r _ _ _ _ _ he' => by
  subst hj
  obtain ⟨inf, hi', hz⟩ := inf_of hs
  have h1 : (0 : Int) ≤ (i : Int) ∧ (i : Int) < (n : Int) := by omega
  have hp := run_partAgg (P := Tryd.prog) he hd hs cs (i * s) w
  simp only [execOp, he' x _ hx, he' y _ hy, Instr.index, asIntOf, Sem.run_bind, Sem.run_pure, Result.andThen_ok, run_underlying ht, if_pos h1, sizeOf, typeInfo, run_program, hi', hz, Int.toNat_natCast, hp]
/-- The address of an array's element. -/
theorem R.indexArr {n i s : Nat} {k : IntKind} {j : Int} (ht : Tryd.prog.underlying t = some (.array n e)) (hs : (Tryd.prog.info? e).map (·.size) = some s) (hx : ev l x = some (.pointer (some ⟨b, o, none⟩))) (hy : ev l y = some (.int k j)) (hj : j = (i : Int)) (hi : i < n) :
    Runs Tryd.prog l (.indexAddr t x y) w (.pointer (some ⟨b, o + i * s, none⟩)) w := fun r _ _ _ _ _ he => by
  subst hj
  obtain ⟨inf, hi', hz⟩ := inf_of hs
  have h1 : (0 : Int) ≤ (i : Int) ∧ (i : Int) < (n : Int) := by omega
  simp [execOp, he x _ hx, he y _ hy, Instr.indexAt, asIntOf, run_underlying ht, h1, sizeOf, typeInfo, hi', hz, Addr.add_none, Instr.sureAddr, hi]

/-- A store of several cells somewhere in a block. -/
theorem OP.storeAt {n : Nat} {Q : Exit → Act → World → Prop} {M : Env → World → Prop} {pos : String} {af : Array Edge} {cur cells : Array Value} {s : Nat} (hs : (Tryd.prog.info? t).map (·.size) = some s) (hn : cells.size = s) (hx : ev l x = some (.pointer (some ⟨b, o, none⟩))) (hy : ev l y = some (.agg cells)) (h1 : cells.all (·.oneCell') = true)
    (hb : w.heap[b]? = some (.cells cur e (0, 0))) (ho : o + s ≤ cur.size)
    (h : ∀ w', Chg (fun k => k = b) w w' → w'.heap.size = w.heap.size → w'.heap[b]? = some (.cells (cur.toList.take o ++ cells.toList ++ cur.toList.drop (o + s)).toArray e (0, 0)) → M l w') :
    OP Tryd.prog Q ⟨none, .store t x y, ty, pos, af, none⟩ n l w M := by
  obtain ⟨inf, hi', hz⟩ := inf_of hs
  subst hn
  refine OP.unit (w' := w.setRow b (cur.toList.take o ++ cells.toList ++ cur.toList.drop (o + cells.size)).toArray) (fun r _ _ _ _ _ he => ?_) (h _ (Chg.setRow _ _ _ rfl) (by simp) (setRow_heap _ _ _ _ _ _ hb))
  have hone : ∀ v ∈ cells.toList, v.oneCell' = true := by
    intro v hv
    rw [Array.all_eq_true_iff_forall_mem] at h1
    exact h1 v (by simpa using hv)
  have hst := run_storeCells_at Tryd.prog b o e cells.toList 0 cur w hb (by simpa using ho) hone
  simp only [Nat.add_zero, Array.toArray_toList, Array.length_toList] at hst
  simp only [execOp, he x _ hx, he y _ hy, Instr.storeAt, Instr.sureAddr, Sem.run_bind, Sem.run_pure, Result.andThen_ok]
  simp [storeVar, sizeOf, typeInfo, hi', hz, Value.cells, hst]

theorem R.minC {a b : Int} {k k' : IntKind} {ts : Array TypeId} (hx : ev l x = some (.int k a)) (hy : ev l y = some (.int k' b)) : Runs Tryd.prog l (.call { callee := .builtin .min, args := #[x, y], argTypes := ts }) w (.int k (if b < a then b else a)) w := fun r _ _ _ _ _ he => by
  simp only [execOp, resolve, invoke, builtin, Sem.run_bind, Sem.run_pure, Result.andThen_ok, List.map_toArray, List.map_cons, List.map_nil, he x _ hx, he y _ hy, run_min_int2]
theorem R.eqlB {a b c : Bool} (hx : ev l x = some (.bool a)) (hy : ev l y = some (.bool b)) (h : (a == b) = c) : Runs Tryd.prog l (.binOp .eql 4 x y ty) w (.bool c) w := fun r _ _ _ _ _ he => by
  subst h
  have := run_eql_bool (P := Tryd.prog) w 4 a b Tryd.underlying4
  simp [execOp, he x _ hx, he y _ hy, eqGuard, this]
theorem R.neqB {a b c : Bool} (hx : ev l x = some (.bool a)) (hy : ev l y = some (.bool b)) (h : (!(a == b)) = c) : Runs Tryd.prog l (.binOp .neq 4 x y ty) w (.bool c) w := fun r _ _ _ _ _ he => by
  subst h
  have := run_neq_bool (P := Tryd.prog) w 4 a b Tryd.underlying4
  simp [execOp, he x _ hx, he y _ hy, eqGuard, this]
end
end Go.Proofs.YthcpjcgjmdfpjaaDoor
