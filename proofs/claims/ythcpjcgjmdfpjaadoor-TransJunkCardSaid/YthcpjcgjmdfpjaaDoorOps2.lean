/- Operations that turn memory; regions that draw their order. In the words of 'Sym'. -/
import Derived.Test.YthcpjcgjmdfpjaaDoorOps
namespace Go.Proofs.YthcpjcgjmdfpjaaDoor
open Go Go.RowKit

/-- One operation, what follows being asked of whatever it leaves. -/
def OP (P : Program) (Q : Exit → Act → World → Prop) (o : Oper) (n : Nat) (l : Env) (w : World) (M : Env → World → Prop) : Prop :=
  ∀ a, Fr a n l → ∀ K : Act → World → Prop, (∀ l' w', M l' w' → ∀ a', Fr a' n l' → K a' w') → o.wp P a w K Q

section
variable {P : Program} {ops : Array Oper} {Q : Exit → Act → World → Prop} {rest : List Oper} {n : Nat} {l : Env} {w w' : World} {o : Oper} {v u : Value} {M : Env → World → Prop}
variable {q : Op} {t e ty : TypeId} {pos : String} {af : Array Edge} {d : Nat} {x y z : Operand}

theorem WL.eff (hg : o.guard = none) (h : OP P Q o n l w (fun l' w' => WL P ops Q rest n l' w')) : WL P ops Q (o :: rest) n l w := by
  intro a ha
  refine wpList_plain hg fun K hK => ?_
  exact h a ha K (fun l' w' hM a' ha' => hK a' w' (hM a' ha'))

theorem OP.val (hdn : d < n) (hr : Runs P l q w v w') (h : M ((d, v) :: l) w') : OP P Q ⟨some d, q, t, pos, af, none⟩ n l w M := by
  intro a ha K hK
  unfold Oper.wp
  rw [hr a.eval t pos _ af none (fun x u hx => ha.ev hx), Oper.upon_value]
  exact hK _ _ h _ (ha.put hdn v)
theorem OP.unit (hr : RunsU P l q w w') (h : M l w') : OP P Q ⟨none, q, t, pos, af, none⟩ n l w M := by
  intro a ha K hK
  unfold Oper.wp
  rw [hr a.eval t pos _ af none (fun x u hx => ha.ev hx), Oper.upon_skip]
  exact hK _ _ h _ ha

/-- A guarded operation that turns memory, or calls. -/
theorem WL.geff {j s : Nat} {b want : Bool} (hj : (ops[j]?).bind (·.dst) = some s) (hs : Env.get l s = some (.bool b)) (hne : (b == want) = true) (h : OP P Q ⟨some d, q, t, pos, af, none⟩ n l w (fun l' w' => WL P ops Q rest n l' w')) :
    WL P ops Q (⟨some d, q, t, pos, af, some (j, want)⟩ :: rest) n l w := by
  intro a ha
  refine wpList_step fun K hK => ?_
  have hw : Region.wanted ⟨some d, q, t, pos, af, some (j, want)⟩ (yielded ops a.tmps) = true := by
    simp only [Region.wanted, yielded_of ha hj hs]
    cases b <;> cases want <;> first | rfl | cases hne
  rw [if_pos hw]
  exact h a ha K (fun l' w' hM a' ha' => hK a' w' (hM a' ha'))

/-! ### Regions that draw their order -/
def AH (P : Program) (ops : Array Oper) (Q : Exit → Act → World → Prop) (S : World → Prop) (fuel : Nat) (listed : Array Bool) (n : Nat) (l : Env) (w : World) : Prop :=
  ∀ a, Fr a n l → wpAnyH P .any ops Q S fuel listed a w

theorem CW.draw {os : List Oper} {id : Nat} (S : World → Prop) (hm : P.follows .mixedOrders = true)
    (h : AH P os.toArray Q S os.toArray.size (Array.replicate os.toArray.size false) n l w.drew) : CW P (.region id os.toArray true) Q n l w :=
  fun a ha => wp_region_held hm (h a ha)

/-- A panic's post does not look at the slots. -/
def Blind (Q : Exit → Act → World → Prop) : Prop := ∀ c (a : Act) (t : Array Value) w, Q (.panic c) { a with tmps := t } w → Q (.panic c) a w
theorem Blind.post {fn : Func} {R : Ending → World → Prop} : Blind (bodyPost P fn R) := fun _ _ _ _ h => h
theorem Blind.then {N : Act → World → Prop} (h : Blind Q) : Blind (Exit.then N Q) := h
theorem Blind.inBlock {id : Nat} (h : Blind Q) : Blind (Exit.inBlock id Q) := h

theorem Blind.put (hb : Blind Q) (dst : Option Tmp) (v : Value) : ∀ c a w, Q (.panic c) (a.put dst v) w → Q (.panic c) a w := by
  intro c a w h
  cases dst with
  | none => exact h
  | some d => exact hb c a _ w h

theorem AH.take (i : Nat) {S : World → Prop} {fuel : Nat} {listed : Array Bool} (hi : ops[i]? = some ⟨some d, q, t, pos, af, none⟩) (hs : Region.noSelect ops = true) (hf : Region.free .any ops listed i = true)
    (hr : (Region.ready .any ops listed).contains i = true) (hb : Blind Q) (hS : S w) (hdn : d < n) (hy : ∀ w, S w → Runs P l q w v w)
    (h : AH P ops Q S fuel (listed.setIfInBounds i true) n ((d, v) :: l) w) : AH P ops Q S (fuel + 1) listed n l w := fun a ha =>
  wpAnyH_take hi hs hf hr (hb.put _ _) (.inl ⟨by simp [Region.wanted], fun w' hw' => hy w' hw' a.eval t pos _ af none (fun x u hx => ha.ev hx)⟩) hS (h _ (ha.put hdn v))

theorem AH.takeG (i : Nat) {S : World → Prop} {fuel : Nat} {listed : Array Bool} {j s : Nat} {b want : Bool} (hi : ops[i]? = some ⟨some d, q, t, pos, af, some (j, want)⟩) (hs : Region.noSelect ops = true) (hf : Region.free .any ops listed i = true)
    (hr : (Region.ready .any ops listed).contains i = true) (hb : Blind Q) (hS : S w) (hdn : d < n) (hj : (ops[j]?).bind (·.dst) = some s) (hsv : Env.get l s = some (.bool b)) (hne : (b == want) = true) (hy : ∀ w, S w → Runs P l q w v w)
    (h : AH P ops Q S fuel (listed.setIfInBounds i true) n ((d, v) :: l) w) : AH P ops Q S (fuel + 1) listed n l w := fun a ha =>
  wpAnyH_take hi hs hf hr (hb.put _ _) (.inl ⟨by
    simp only [Region.wanted, yielded_of ha hj hsv]
    exact (by cases b <;> cases want <;> first | rfl | cases hne), fun w' hw' => hy w' hw' a.eval t pos _ af _ (fun x u hx => ha.ev hx)⟩) hS (h _ (ha.put hdn v))
theorem AH.pass (i : Nat) {S : World → Prop} {fuel : Nat} {listed : Array Bool} {j s : Nat} {b want : Bool} (hi : ops[i]? = some ⟨some d, q, t, pos, af, some (j, want)⟩) (hs : Region.noSelect ops = true) (hf : Region.free .any ops listed i = true)
    (hr : (Region.ready .any ops listed).contains i = true) (hb : Blind Q) (hS : S w) (hdn : d < n) (hj : (ops[j]?).bind (·.dst) = some s) (hsv : Env.get l s = some (.bool b)) (hne : (b == want) = false)
    (h : AH P ops Q S fuel (listed.setIfInBounds i true) n ((d, undef) :: l) w) : AH P ops Q S (fuel + 1) listed n l w := fun a ha =>
  wpAnyH_take hi hs hf hr (hb.put _ _) (.inr ⟨by
    simp only [Region.wanted, yielded_of ha hj hsv]
    exact (by cases b <;> cases want <;> first | rfl | cases hne), rfl⟩) hS (h _ (ha.put hdn undef))

theorem AH.passU (i : Nat) {S : World → Prop} {fuel : Nat} {listed : Array Bool} {j s : Nat} {want : Bool} (hi : ops[i]? = some ⟨some d, q, t, pos, af, some (j, want)⟩) (hs : Region.noSelect ops = true) (hf : Region.free .any ops listed i = true)
    (hr : (Region.ready .any ops listed).contains i = true) (hb : Blind Q) (hS : S w) (hdn : d < n) (hj : (ops[j]?).bind (·.dst) = some s) (hsv : Env.get l s = some undef)
    (h : AH P ops Q S fuel (listed.setIfInBounds i true) n ((d, undef) :: l) w) : AH P ops Q S (fuel + 1) listed n l w := fun a ha =>
  wpAnyH_take hi hs hf hr (hb.put _ _) (.inr ⟨by
    have : yielded ops a.tmps j = none := by
      unfold yielded
      rw [hj]
      simp [ha.has s _ hsv, undef]
    simp only [Region.wanted, this]
    rfl, rfl⟩) hS (h _ (ha.put hdn undef))

theorem AH.eff (i : Nat) {S : World → Prop} {fuel : Nat} {listed : Array Bool} (hr : Region.ready .any ops listed = [i]) (hi : ops[i]? = some o) (hg : o.guard = none)
    (h : OP P Q o n l w (fun l' w' => S w' ∧ AH P ops Q S fuel (listed.setIfInBounds i true) n l' w')) : AH P ops Q S (fuel + 1) listed n l w := by
  intro a ha
  refine wpAnyH_all hr (by simp) ?_
  intro i' hi'
  obtain rfl := List.mem_singleton.1 hi'
  unfold wpOp
  simp only [hi, Region.wanted, hg, if_true]
  exact .inl (h a ha _ (fun l' w' hM a' ha' => ⟨hM.1, hM.2 a' ha'⟩))

theorem AH.done {S : World → Prop} {fuel : Nat} {listed : Array Bool} (hr : Region.ready .any ops listed = []) (h : EW Q .normal n l w) : AH P ops Q S fuel listed n l w :=
  fun a ha => wpAnyH_done hr (h a ha) fuel

/-! ### Calls -/
def evs (l : Env) : List Operand → Option (List Value)
  | [] => some []
  | x :: r => match ev l x, evs l r with
    | some v, some vs => some (v :: vs)
    | _, _ => none
theorem evs_map {a : Act} (ha : Fr a n l) : ∀ (xs : List Operand) (vs : List Value), evs l xs = some vs → xs.map a.eval = vs
  | [], vs, h => by simpa [evs] using h
  | x :: r, vs, h => by
    unfold evs at h
    split at h
    · rename_i v ws hv hw
      obtain rfl := Option.some.inj h
      rw [List.map_cons, ha.ev hv, evs_map ha r ws hw]
    · cases h

theorem OP.call {f : FuncId} {fn : Func} {args : List Operand} {ts : Array TypeId} {vals : List Value} {R : Ending → World → Prop} (hdn : d < n) (hf : P.funcs[f]? = some fn) (hname : (fn.name == "runtime.NumGoroutine") = false) (hbody : fn.body.isNone = false)
    (hargs : evs l args = some vals) (hc : Calls P f vals.toArray w R) (h : ∀ ed w', R ed w' → ∃ v, ed = .returned v ∧ M ((d, v) :: l) w') :
    OP P Q ⟨some d, .call { callee := .value (.func f), args := args.toArray, argTypes := ts }, t, pos, af, none⟩ n l w M := by
  intro a ha K hK
  unfold Oper.wp
  have hm := evs_map ha args vals hargs
  have hrun : (execOp a.eval ⟨some d, .call { callee := .value (.func f), args := args.toArray, argTypes := ts }, t, pos, af, none⟩).run P w = .ok (.enter f vals.toArray) w := by
    have hcf : (callFunc f vals.toArray).run P w = .ok (.enter f vals.toArray) w := by
      unfold callFunc
      simp only [Sem.run_bind, run_program, Result.andThen_ok, hf, hname, hbody, Bool.false_eq_true, if_false]
      rfl
    have hmap : args.toArray.map a.eval = vals.toArray := by rw [List.map_toArray, hm]
    simp only [execOp, resolve, hmap, Act.eval, Deferred.ofValue, Sem.run_bind, Sem.run_pure, Result.andThen_ok, invoke, Array.append_empty, Array.empty_append]
    exact hcf
  rw [hrun, Oper.upon_enter]
  refine hc.mono ?_
  intro ed w' hR
  obtain ⟨v, rfl, hM⟩ := h ed w' hR
  exact hK _ _ hM _ (ha.put hdn v)

/-! ### New memory -/
theorem OP.box (hdn : d < n) (hx : ev l x = some v) (h : ∀ w', Chg (fun _ => False) w w' → w'.heap.size = w.heap.size + 1 → w'.heap[w.heap.size]? = some (.cells v.cells e (0, 0)) → M ((d, .pointer (some ⟨w.heap.size, 0, none⟩)) :: l) w') :
    OP P Q ⟨some d, .box e x, t, pos, af, none⟩ n l w M :=
  OP.val (w' := w.alloc (.cells v.cells e)) hdn (fun r _ _ _ _ _ he => by
    simp [execOp, he x _ hx, Instr.box, newVar, newRow]) (h _ (Chg.alloc _ _ _) (by simp) (heap_alloc_new _ _))
theorem OP.alloc {i : TypeInfo} {zv : Value} (hdn : d < n) (hi : P.info? e = some i) (hz : i.zero = some zv) (h : ∀ w', Chg (fun _ => False) w w' → w'.heap.size = w.heap.size + 1 → w'.heap[w.heap.size]? = some (.cells zv.cells e (0, 0)) → M ((d, .pointer (some ⟨w.heap.size, 0, none⟩)) :: l) w') :
    OP P Q ⟨some d, .alloc e, t, pos, af, none⟩ n l w M :=
  OP.val (w' := w.alloc (.cells zv.cells e)) hdn (fun r _ _ _ _ _ he => by
    simp [execOp, Instr.alloc, zeroValue, typeInfo, hi, hz, newVar, newRow]) (h _ (Chg.alloc _ _ _) (by simp) (heap_alloc_new _ _))
theorem OP.makeMap (hdn : d < n) (h : ∀ w', Chg (fun _ => False) w w' → w'.heap.size = w.heap.size + 1 → w'.heap[w.heap.size]? = some (.map #[] 0) → M ((d, .map (some w.heap.size)) :: l) w') :
    OP P Q ⟨some d, .makeMap e none, t, pos, af, none⟩ n l w M :=
  OP.val (w' := w.alloc (.map #[] 0)) hdn (fun r _ _ _ _ _ he => by
    simp [execOp, Instr.makeMap]) (h _ (Chg.alloc _ _ _) (by simp) (heap_alloc_new _ _))

/-- The values of a literal's parts. -/
def evp (l : Env) : List (Nat × Operand) → Option (List (Nat × Value))
  | [] => some []
  | (i, x) :: r => match ev l x, evp l r with
    | some v, some vs => some ((i, v) :: vs)
    | _, _ => none
theorem evp_map {r : Operand → Value} (he : ∀ x u, ev l x = some u → r x = u) : ∀ (xs : List (Nat × Operand)) (vs : List (Nat × Value)), evp l xs = some vs → xs.map (fun p => (p.1, r p.2)) = vs
  | [], vs, h => by simpa [evp] using h
  | (i, x) :: xs, vs, h => by
    unfold evp at h
    split at h
    · rename_i v ws hv hw
      obtain rfl := Option.some.inj h
      rw [List.map_cons, he _ _ hv, evp_map he xs ws hw]
    · cases h

theorem R.build {parts : List (Nat × Operand)} {vals : List (Nat × Value)} (hp : evp l parts = some vals) (h : ∀ w, (Instr.build e vals.toArray).run P w = .ok v w) : Runs P l (.build e parts.toArray) w v w := fun r _ _ _ _ _ he => by
  have hm := evp_map he parts vals hp
  have : parts.toArray.map (fun x => (x.1, r x.2)) = vals.toArray := by rw [List.map_toArray, hm]
  simp only [execOp, this, Sem.run_bind, h, Result.andThen_ok]
  rfl

theorem OP.buildSlice {parts : List (Nat × Operand)} {vals : List (Nat × Value)} {m : Nat} {cells : Array Value} (hdn : d < n) (hp : evp l parts = some vals)
    (hrun : ∀ w, (Instr.buildSlice e m vals.toArray).run P w = .ok (.slice (some ⟨w.heap.size, 0, none⟩) m m) (w.alloc (.cells cells ty)))
    (h : ∀ w', Chg (fun _ => False) w w' → w'.heap.size = w.heap.size + 1 → w'.heap[w.heap.size]? = some (.cells cells ty (0, 0)) → M ((d, .slice (some ⟨w.heap.size, 0, none⟩) m m) :: l) w') :
    OP P Q ⟨some d, .buildSlice e m parts.toArray, t, pos, af, none⟩ n l w M :=
  OP.val (w' := w.alloc (.cells cells ty)) hdn (fun r _ _ _ _ _ he => by
    have hm := evp_map he parts vals hp
    have : parts.toArray.map (fun x => (x.1, r x.2)) = vals.toArray := by rw [List.map_toArray, hm]
    simp only [execOp, this, Sem.run_bind, hrun, Result.andThen_ok]
    rfl) (h _ (Chg.alloc _ _ _) (by simp) (heap_alloc_new _ _))

/-! ### Stores -/
theorem OP.store {b o : Nat} {cs : Array Value} {fr : Nat × Nat} {i : TypeInfo} (hi : P.info? t = some i) (hn : i.size = 1) (hx : ev l x = some (.pointer (some ⟨b, o, none⟩))) (hy : ev l y = some v) (h1 : v.oneCell' = true) (hv : v.cells = #[v])
    (hb : w.heap[b]? = some (.cells cs e fr)) (ho : o < cs.size) (hf : (decide (fr.1 ≤ o) && decide (o < fr.2)) = false)
    (h : ∀ w', Chg (fun k => k = b) w w' → w'.heap.size = w.heap.size → w'.heap[b]? = some (.cells (cs.setIfInBounds o v) e fr) → M l w') :
    OP P Q ⟨none, .store t x y, ty, pos, af, none⟩ n l w M :=
  OP.unit (R.store hi hn hx hy h1 hv hb ho hf) (h _ (Chg.setCell _ _ _ rfl) (by simp [World.setCell]) (setCell_at hb v))

/-- A store of a whole struct or array over a whole block. -/
theorem OP.storeAgg {b : Nat} {old cells : Array Value} {i : TypeInfo} (hi : P.info? t = some i) (hn : i.size = cells.size) (hx : ev l x = some (.pointer (some ⟨b, 0, none⟩))) (hy : ev l y = some (.agg cells)) (h1 : cells.all (·.oneCell') = true)
    (hb : w.heap[b]? = some (.cells old e (0, 0))) (ho : old.size = cells.size)
    (h : ∀ w', Chg (fun k => k = b) w w' → w'.heap.size = w.heap.size → w'.heap[b]? = some (.cells cells e (0, 0)) → M l w') :
    OP P Q ⟨none, .store t x y, ty, pos, af, none⟩ n l w M :=
  OP.unit (fun r _ _ _ _ _ he => by
    have := run_storeVar_row (P := P) w b e t old cells hb (by simp [hi, hn]) ho h1
    simp [execOp, he x _ hx, he y _ hy, Instr.storeAt, Instr.sureAddr, this]) (h _ (Chg.setRow _ _ _ rfl) (by simp) (setRow_heap _ _ _ _ _ _ hb))

end
end Go.Proofs.YthcpjcgjmdfpjaaDoor
