/- A small symbolic execution over the kit's wp calculus: a frame of which some slots are known ('Fr'), one law an operation, one law a form of code. -/
import Derived.Test.YthcpjcgjmdfpjaaDoorBase
import Derived.OrdersHeld
namespace Go.Proofs.YthcpjcgjmdfpjaaDoor
open Go Go.RowKit

/-! ### What of memory has turned -/

/-- Only blocks of which S speaks, and new ones, have turned. -/
structure Chg (S : Nat → Prop) (w w' : World) : Prop where
  os : w'.os = w.os
  tape : w'.tape = w.tape
  output : w'.output = w.output
  size : w.heap.size ≤ w'.heap.size
  block : ∀ k, k < w.heap.size → ¬ S k → w'.heap[k]? = w.heap[k]?

theorem Chg.refl (S : Nat → Prop) (w : World) : Chg S w w := ⟨rfl, rfl, rfl, Nat.le_refl _, fun _ _ _ => rfl⟩
theorem Chg.trans {S : Nat → Prop} {a b c : World} (h : Chg S a b) (k : Chg S b c) : Chg S a c :=
  ⟨k.os.trans h.os, k.tape.trans h.tape, k.output.trans h.output, Nat.le_trans h.size k.size, fun i hi hn => (k.block i (Nat.lt_of_lt_of_le hi h.size) hn).trans (h.block i hi hn)⟩
theorem Chg.mono {S S' : Nat → Prop} {w w' : World} (h : Chg S w w') (hs : ∀ k, k < w.heap.size → S k → S' k) : Chg S' w w' :=
  ⟨h.os, h.tape, h.output, h.size, fun k hk hn => h.block k hk (fun hS => hn (hs k hk hS))⟩
/-- The second step may turn what is new since the first world. -/
theorem Chg.then {S S' : Nat → Prop} {a b c : World} (h : Chg S a b) (k : Chg S' b c) (hs : ∀ j, j < a.heap.size → S' j → S j) : Chg S a c :=
  ⟨k.os.trans h.os, k.tape.trans h.tape, k.output.trans h.output, Nat.le_trans h.size k.size, fun i hi hn => (k.block i (Nat.lt_of_lt_of_le hi h.size) (fun hS => hn (hs i hi hS))).trans (h.block i hi hn)⟩
theorem Chg.at {S : Nat → Prop} {w w' : World} (h : Chg S w w') {k : Nat} {o : Obj} (hk : w.heap[k]? = some o) (hn : ¬ S k) : w'.heap[k]? = some o :=
  (h.block k (Array.getElem?_eq_some_iff.1 hk).1 hn).trans hk
theorem Chg.alloc (S : Nat → Prop) (w : World) (o : Obj) : Chg S w (w.alloc o) :=
  ⟨rfl, rfl, rfl, by simp, fun k hk _ => Below.heap_alloc w o k hk⟩
theorem Chg.drew (S : Nat → Prop) (w : World) : Chg S w w.drew := ⟨rfl, rfl, rfl, Nat.le_refl _, fun _ _ _ => rfl⟩
theorem Chg.setRow {S : Nat → Prop} (w : World) (g : Nat) (cs : Array Value) (h : S g) : Chg S w (w.setRow g cs) :=
  ⟨rfl, rfl, rfl, by simp, fun k _ hn => setRow_other w g k cs (fun e => hn (e ▸ h))⟩
theorem Chg.setCell {S : Nat → Prop} (w : World) (a : Addr) (v : Value) (h : S a.block) : Chg S w (w.setCell a v) :=
  ⟨rfl, rfl, rfl, by simp [World.setCell], fun k _ hn => Below.heap_setCell w a v k (fun e => hn (e ▸ h))⟩
theorem Chg.grown {w w' : World} {row : Option Nat} (h : w.grownBy w' row) : Chg (fun k => some k = row) w w' := ⟨h.os, h.tape, h.output, h.size, h.block⟩
theorem Chg.below {B : Nat} {w w' : World} (h : Chg (fun k => B ≤ k) w w') (hB : B ≤ w.heap.size) : Below B w w' :=
  ⟨h.os, h.tape, h.output, h.size, fun k hk => h.block k (Nat.lt_of_lt_of_le hk hB) (by omega)⟩

/-! ### Frames of which some slots are known -/

abbrev Env := List (Nat × Value)
def Env.get : Env → Nat → Option Value
  | [], _ => none
  | (k, v) :: r, j => match Nat.beq k j with | true => some v | false => Env.get r j

structure Fr (a : Act) (n : Nat) (l : Env) : Prop where
  size : a.tmps.size = n
  defs : a.defers = []
  has : ∀ k v, Env.get l k = some v → a.tmps[k]? = some v

def ev (l : Env) : Operand → Option Value
  | .tmp t => Env.get l t
  | .const v => some v
  | .global g => some (.pointer (some ⟨g, 0, none⟩))
  | .func f => some (.func (.func f) #[] #[])

theorem Fr.ev {a : Act} {n : Nat} {l : Env} (h : Fr a n l) {x : Operand} {v : Value} (hv : ev l x = some v) : a.eval x = v := by
  cases x with
  | tmp t => have := h.has t v hv; simp [Act.eval, Array.getD_eq_getD_getElem?, this]
  | const c => exact Option.some.inj hv
  | global g => exact Option.some.inj hv
  | func f => exact Option.some.inj hv

theorem Fr.put {a : Act} {n : Nat} {l : Env} (h : Fr a n l) {d : Nat} (hd : d < n) (v : Value) : Fr (a.put (some d) v) n ((d, v) :: l) := by
  refine ⟨by simp [Act.put, h.size], h.defs, fun k u hk => ?_⟩
  simp only [Act.put]
  rw [Array.getElem?_setIfInBounds]
  by_cases e : d = k
  · subst e
    have : Env.get ((d, v) :: l) d = some v := by simp [Env.get]
    rw [this] at hk
    rw [if_pos rfl, if_pos (by rw [h.size]; exact hd)]
    exact hk
  · rw [if_neg e]
    refine h.has k u ?_
    have hb : Nat.beq d k = false := by
      cases hq : Nat.beq d k with
      | false => rfl
      | true => exact absurd (Nat.eq_of_beq_eq_true hq) e
    simpa [Env.get, hb] using hk

theorem Fr.weaken {a : Act} {n : Nat} {l l' : Env} (h : Fr a n l) (hs : ∀ k v, Env.get l' k = some v → Env.get l k = some v) : Fr a n l' :=
  ⟨h.size, h.defs, fun k v hk => h.has k v (hs k v hk)⟩

/-- Keep only these slots. -/
def Env.keep (l : Env) : List Nat → Env
  | [] => []
  | k :: ks => match Env.get l k with
    | some v => (k, v) :: Env.keep l ks
    | none => Env.keep l ks
theorem Env.keep_get (l : Env) : ∀ (ks : List Nat) (k : Nat) (v : Value), Env.get (Env.keep l ks) k = some v → Env.get l k = some v
  | [], _, _, h => by simp [Env.keep, Env.get] at h
  | j :: ks, k, v, h => by
    unfold Env.keep at h
    split at h
    · rename_i u hu
      simp only [Env.get] at h
      cases hb : Nat.beq j k with
      | true => rw [hb] at h; simp only at h; have := Nat.eq_of_beq_eq_true hb; subst this; rw [hu]; exact h
      | false => rw [hb] at h; exact Env.keep_get l ks k v h
    · exact Env.keep_get l ks k v h
theorem Fr.keep {a : Act} {n : Nat} {l : Env} (h : Fr a n l) (ks : List Nat) : Fr a n (Env.keep l ks) := h.weaken (Env.keep_get l ks)

/-! ### Operations -/
section
variable {P : Program} {ops : Array Oper} {Q : Exit → Act → World → Prop} {rest : List Oper} {n : Nat} {l : Env} {w w' : World} {o : Oper} {v : Value}

/-- A list of operations, from every frame of which this is known. -/
def WL (P : Program) (ops : Array Oper) (Q : Exit → Act → World → Prop) (rest : List Oper) (n : Nat) (l : Env) (w : World) : Prop :=
  ∀ a, Fr a n l → wpList P ops Q rest a w
/-- Code, from every frame of which this is known. -/
def CW (P : Program) (c : Code) (Q : Exit → Act → World → Prop) (n : Nat) (l : Env) (w : World) : Prop := ∀ a, Fr a n l → c.wp P Q a w
/-- What stands behind an exit, from every frame of which this is known. -/
def EW (Q : Exit → Act → World → Prop) (e : Exit) (n : Nat) (l : Env) (w : World) : Prop := ∀ a, Fr a n l → Q e a w

/-- The operation yields v and leaves w'. -/
def Runs (P : Program) (l : Env) (o : Op) (w : World) (v : Value) (w' : World) : Prop :=
  ∀ (e : Operand → Value) (t : TypeId) (pos : String) (dst : Option Tmp) (af : Array Edge) (gd : Option (Nat × Bool)), (∀ x u, ev l x = some u → e x = u) → (execOp e ⟨dst, o, t, pos, af, gd⟩).run P w = .ok (.value v) w'
/-- The operation leaves w', and no value. -/
def RunsU (P : Program) (l : Env) (o : Op) (w w' : World) : Prop :=
  ∀ (e : Operand → Value) (t : TypeId) (pos : String) (dst : Option Tmp) (af : Array Edge) (gd : Option (Nat × Bool)), (∀ x u, ev l x = some u → e x = u) → (execOp e ⟨dst, o, t, pos, af, gd⟩).run P w = .ok .skip w'

variable {q : Op} {t : TypeId} {pos : String} {af : Array Edge} {d : Nat}

theorem WL.op (hdn : d < n) (hr : Runs P l q w v w') (h : WL P ops Q rest n ((d, v) :: l) w') : WL P ops Q (⟨some d, q, t, pos, af, none⟩ :: rest) n l w := by
  intro a ha
  refine wpList_plain rfl fun K hK => ?_
  unfold Oper.wp
  rw [hr a.eval t pos _ af none (fun x u hx => ha.ev hx), Oper.upon_value]
  exact hK _ _ (h _ (ha.put hdn v))

theorem WL.st (hr : RunsU P l q w w') (h : WL P ops Q rest n l w') : WL P ops Q (⟨none, q, t, pos, af, none⟩ :: rest) n l w := by
  intro a ha
  refine wpList_plain rfl fun K hK => ?_
  unfold Oper.wp
  rw [hr a.eval t pos _ af none (fun x u hx => ha.ev hx), Oper.upon_skip]
  exact hK _ _ (h _ ha)

theorem yielded_of {a : Act} {j s : Nat} {b : Bool} (ha : Fr a n l) (hj : (ops[j]?).bind (·.dst) = some s) (hs : Env.get l s = some (.bool b)) : yielded ops a.tmps j = some b := by
  unfold yielded
  rw [hj]
  simp [ha.has s _ hs]

/-- A guarded operation that is passed over. -/
theorem WL.pass {j s : Nat} {b want : Bool} (hdn : d < n) (hj : (ops[j]?).bind (·.dst) = some s) (hs : Env.get l s = some (.bool b)) (hne : (b == want) = false)
    (h : WL P ops Q rest n ((d, undef) :: l) w) : WL P ops Q (⟨some d, q, t, pos, af, some (j, want)⟩ :: rest) n l w := by
  intro a ha
  refine wpList_skip ?_ (h _ (ha.put hdn undef))
  simp only [Region.wanted, yielded_of ha hj hs]
  cases b <;> cases want <;> first | rfl | cases hne

/-- A guarded operation whose guard was itself passed over. -/
theorem WL.passU {j s : Nat} {want : Bool} (hdn : d < n) (hj : (ops[j]?).bind (·.dst) = some s) (hs : Env.get l s = some undef)
    (h : WL P ops Q rest n ((d, undef) :: l) w) : WL P ops Q (⟨some d, q, t, pos, af, some (j, want)⟩ :: rest) n l w := by
  intro a ha
  refine wpList_skip ?_ (h _ (ha.put hdn undef))
  have : yielded ops a.tmps j = none := by
    unfold yielded
    rw [hj]
    simp [ha.has s _ hs, undef]
  simp only [Region.wanted, this]
  rfl

/-- A guarded operation that is carried out. -/
theorem WL.gop {j s : Nat} {b want : Bool} (hdn : d < n) (hj : (ops[j]?).bind (·.dst) = some s) (hs : Env.get l s = some (.bool b)) (hne : (b == want) = true)
    (hr : Runs P l q w v w') (h : WL P ops Q rest n ((d, v) :: l) w') : WL P ops Q (⟨some d, q, t, pos, af, some (j, want)⟩ :: rest) n l w := by
  intro a ha
  refine wpList_step fun K hK => ?_
  have hw : Region.wanted ⟨some d, q, t, pos, af, some (j, want)⟩ (yielded ops a.tmps) = true := by
    simp only [Region.wanted, yielded_of ha hj hs]
    cases b <;> cases want <;> first | rfl | cases hne
  rw [if_pos hw]
  unfold Oper.wp
  rw [hr a.eval t pos _ af _ (fun x u hx => ha.ev hx), Oper.upon_value]
  exact hK _ _ (h _ (ha.put hdn v))

theorem WL.keep (ks : List Nat) (h : WL P ops Q rest n (Env.keep l ks) w) : WL P ops Q rest n l w := fun a ha => h a (ha.keep ks)
theorem CW.keep {c : Code} (ks : List Nat) (h : CW P c Q n (Env.keep l ks) w) : CW P c Q n l w := fun a ha => h a (ha.keep ks)

/-! ### Code -/
variable {c c2 : Code} {id : Nat}
theorem WL.next (h : CW P c Q n l w) : WL P ops (Exit.then (c.wp P Q) Q) [] n l w := fun a ha => h a ha
theorem WL.nil (h : EW Q .normal n l w) : WL P ops Q [] n l w := fun a ha => h a ha
theorem CW.seq (h : CW P c (Exit.then (c2.wp P Q) Q) n l w) : CW P (.seq c c2) Q n l w := fun a ha => wp_seq (h a ha)
theorem CW.region {os : List Oper} (h : WL P os.toArray Q os n l w) : CW P (.region id os.toArray false) Q n l w := fun a ha => wp_region_lit (h a ha)
/-- A region, and what follows. -/
theorem CW.rseq {os : List Oper} (h : WL P os.toArray (Exit.then (c2.wp P Q) Q) os n l w) : CW P (.seq (.region id os.toArray false) c2) Q n l w := CW.seq (CW.region h)
theorem CW.skip (h : EW Q .normal n l w) : CW P .skip Q n l w := fun a ha => wp_skip (h a ha)
theorem CW.exit (h : EW Q (.exit id) n l w) : CW P (.exit id) Q n l w := fun a ha => wp_exit (h a ha)
theorem CW.ret (h : EW Q .ret n l w) : CW P .ret Q n l w := fun a ha => wp_ret (h a ha)
theorem CW.block (h : CW P c (Exit.inBlock id Q) n l w) : CW P (.block id c) Q n l w := fun a ha => wp_block (h a ha)
theorem CW.condT {x : Operand} (hc : ev l x = some (.bool true)) (h : CW P c Q n l w) : CW P (.cond x c c2) Q n l w := fun a ha => wp_cond_true (ha.ev hc) (h a ha)
theorem CW.condF {x : Operand} (hc : ev l x = some (.bool false)) (h : CW P c2 Q n l w) : CW P (.cond x c c2) Q n l w := fun a ha => wp_cond_false (ha.ev hc) (h a ha)
theorem EW.next (h : CW P c Q n l w) : EW (Exit.then (c.wp P Q) Q) .normal n l w := fun a ha => h a ha
theorem EW.thenExit {N : Act → World → Prop} {i : Nat} (h : EW Q (.exit i) n l w) : EW (Exit.then N Q) (.exit i) n l w := fun a ha => h a ha
theorem EW.thenRet {N : Act → World → Prop} (h : EW Q .ret n l w) : EW (Exit.then N Q) .ret n l w := fun a ha => h a ha
theorem EW.inHere (h : EW Q .normal n l w) : EW (Exit.inBlock id Q) (.exit id) n l w := fun a ha => by
  show (if id = id then Q .normal a w else _); rw [if_pos rfl]; exact h a ha
theorem EW.inFar {i : Nat} (hne : i ≠ id) (h : EW Q (.exit i) n l w) : EW (Exit.inBlock id Q) (.exit i) n l w := fun a ha => by
  show (if i = id then _ else Q (.exit i) a w); rw [if_neg hne]; exact h a ha
theorem EW.inNormal (h : EW Q .normal n l w) : EW (Exit.inBlock id Q) .normal n l w := fun a ha => h a ha
theorem EW.inRet (h : EW Q .ret n l w) : EW (Exit.inBlock id Q) .ret n l w := fun a ha => h a ha

/-- A loop: the invariant speaks of the known slots, the world, and a number that each round lowers. -/
theorem CW.loop (I : Nat → Env → World → Prop) (m : Nat) (h0 : I m l w)
    (round : ∀ m l w, I m l w → CW P c (Exit.then (fun a' w' => ∃ m' l', m' < m ∧ Fr a' n l' ∧ I m' l' w') Q) n l w) : CW P (.loop c) Q n l w := by
  have key : ∀ m l w, I m l w → ∀ a, Fr a n l → (Code.loop c).wp P Q a w := by
    intro m l w hI a ha
    refine wp_loop (fun a w => ∃ m l, Fr a n l ∧ I m l w) (fun a w => Classical.epsilon (fun k => (∃ l, Fr a n l ∧ I k l w) ∧ ∀ j, (∃ l, Fr a n l ∧ I j l w) → k ≤ j)) ⟨m, l, ha, hI⟩ ?_
    intro a w ⟨m, l, ha, hI⟩
    have least : ∀ (p : Nat → Prop) (k : Nat), p k → ∃ k, p k ∧ ∀ j, p j → k ≤ j := by
      intro p k
      induction k using Nat.strongRecOn with
      | _ k ih =>
        intro hk
        by_cases hex : ∃ j, j < k ∧ p j
        · obtain ⟨j, hj, hpj⟩ := hex; exact ih j hj hpj
        · exact ⟨k, hk, fun j hj => Nat.le_of_not_lt (fun hlt => hex ⟨j, hlt, hj⟩)⟩
    have hex := least (fun k => ∃ l, Fr a n l ∧ I k l w) m ⟨l, ha, hI⟩
    have hsp := Classical.epsilon_spec hex
    obtain ⟨l0, ha0, hI0⟩ := hsp.1
    refine wp_mono (round _ l0 w hI0 a ha0) ?_
    intro e a' w' hq
    cases e with
    | normal =>
      obtain ⟨m', l', hlt, ha', hI'⟩ := hq
      refine ⟨⟨m', l', ha', hI'⟩, ?_⟩
      have hex' := least (fun k => ∃ l, Fr a' n l ∧ I k l w') m' ⟨l', ha', hI'⟩
      exact Nat.lt_of_le_of_lt ((Classical.epsilon_spec hex').2 m' ⟨l', ha', hI'⟩) hlt
    | _ => exact hq
  exact fun a ha => key m l w h0 a ha

/-- A loop, entered with these slots alone. -/
theorem CW.loopK (ks : List Nat) (I : Nat → Env → World → Prop) (m : Nat) (h0 : I m (Env.keep l ks) w)
    (round : ∀ m l w, I m l w → CW P c (Exit.then (fun a' w' => ∃ m' l', m' < m ∧ Fr a' n l' ∧ I m' l' w') Q) n l w) : CW P (.loop c) Q n l w :=
  CW.keep ks (CW.loop I m h0 round)

/-- The end of a round. -/
theorem EW.round {I : Nat → Env → World → Prop} {m : Nat} (m' : Nat) (l' : Env) (hlt : m' < m) (hl : ∀ k v, Env.get l' k = some v → Env.get l k = some v) (hI : I m' l' w) :
    EW (Exit.then (fun a' w' => ∃ m' l', m' < m ∧ Fr a' n l' ∧ I m' l' w') Q) .normal n l w := fun a ha => ⟨m', l', hlt, ha.weaken hl, hI⟩

theorem EW.roundK (ks : List Nat) {I : Nat → Env → World → Prop} {m : Nat} (m' : Nat) (hlt : m' < m) (hI : I m' (Env.keep l ks) w) :
    EW (Exit.then (fun a' w' => ∃ m' l', m' < m ∧ Fr a' n l' ∧ I m' l' w') Q) .normal n l w := EW.round m' _ hlt (Env.keep_get l ks) hI

/-- A cut: where the ways meet again. -/
theorem CW.cut (M : Env → World → Prop) (h1 : CW P c (Exit.then (fun a' w' => ∃ l', Fr a' n l' ∧ M l' w') Q) n l w) (h2 : ∀ l w, M l w → CW P c2 Q n l w) : CW P (.seq c c2) Q n l w := by
  intro a ha
  refine wp_seq (wp_mono (h1 a ha) ?_)
  intro e a' w' hq
  cases e with
  | normal => obtain ⟨l', ha', hM⟩ := hq; exact h2 l' w' hM a' ha'
  | _ => exact hq
theorem EW.cut {M : Env → World → Prop} (l' : Env) (hl : ∀ k v, Env.get l' k = some v → Env.get l k = some v) (hM : M l' w) :
    EW (Exit.then (fun a' w' => ∃ l', Fr a' n l' ∧ M l' w') Q) .normal n l w := fun a ha => ⟨l', ha.weaken hl, hM⟩

theorem EW.cutK (ks : List Nat) {M : Env → World → Prop} (hM : M (Env.keep l ks) w) :
    EW (Exit.then (fun a' w' => ∃ l', Fr a' n l' ∧ M l' w') Q) .normal n l w := EW.cut _ (Env.keep_get l ks) hM

/-! ### Begin and end of a call -/
theorem calls_cw {f : FuncId} {fn : Func} {c : Code} {args : List Value} {R : Ending → World → Prop} (hf : P.funcs[f]? = some fn) (hb : fn.body = some c) (hn0 : Nat.ble args.length fn.ntmps = true)
    (h : CW P c (bodyPost P fn R) fn.ntmps ((List.range args.length).zip args) w) : Calls P f args.toArray w R := by
  have hn := Nat.le_of_ble_eq_true hn0
  refine calls_of_wp hf hb (h _ ?_)
  refine ⟨by simp; omega, rfl, ?_⟩
  intro k v hk
  have key : ∀ (args : List Value) (b : Nat), Env.get ((List.range' b args.length).zip args) k = some v → b ≤ k ∧ args[k - b]? = some v := by
    intro args
    induction args with
    | nil => intro b h; simp [Env.get] at h
    | cons x xs ih =>
      intro b h
      simp only [List.length_cons, List.range'_succ, List.zip_cons_cons, Env.get] at h
      cases hb : Nat.beq b k with
      | true =>
        rw [hb] at h
        have := Nat.eq_of_beq_eq_true hb
        subst this
        simpa using h
      | false =>
        rw [hb] at h
        obtain ⟨h1, h2⟩ := ih (b + 1) h
        refine ⟨by omega, ?_⟩
        rw [show k - b = (k - (b + 1)) + 1 by omega]
        simpa using h2
  have := key args 0 (by rw [← List.range_eq_range']; exact hk)
  obtain ⟨_, h2⟩ := this
  simp only [Nat.sub_zero] at h2
  have hlt : k < args.length := (List.getElem?_eq_some_iff.1 h2).1
  simp [Array.getElem?_append, hlt]
  simpa [List.getElem?_eq_getElem hlt] using h2

theorem EW.ret1 {fn : Func} {R : Ending → World → Prop} {e : Exit} {s : Nat} {v : Value} (he : e = .ret ∨ e = .normal) (hr : fn.results = #[.tmp s]) (hs : Env.get l s = some v) (hR : R (.returned v) w) : EW (bodyPost P fn R) e n l w := by
  intro a ha
  have hres : (results fn a.tmps).run P w = .ok v w := by
    rw [results_tmp hr]
    simp [Array.getD_eq_getD_getElem?, ha.has s v hs]
  rcases he with rfl | rfl <;> exact ⟨ha.defs, v, hres, hR⟩
theorem EW.ret0 {fn : Func} {R : Ending → World → Prop} {e : Exit} (he : e = .ret ∨ e = .normal) (hr : fn.results = #[]) (hR : R (.returned (.tuple #[])) w) : EW (bodyPost P fn R) e n l w := by
  intro a ha
  have hres : (results fn a.tmps).run P w = .ok (.tuple #[]) w := results_none hr _ _ _
  rcases he with rfl | rfl <;> exact ⟨ha.defs, _, hres, hR⟩
theorem EW.ret2 {fn : Func} {R : Ending → World → Prop} {e : Exit} {s u : Nat} {v v2 : Value} (he : e = .ret ∨ e = .normal) (hr : fn.results = #[.tmp s, .tmp u]) (hs : Env.get l s = some v) (hu : Env.get l u = some v2) (hR : R (.returned (.tuple #[v, v2])) w) : EW (bodyPost P fn R) e n l w := by
  intro a ha
  have hres : (results fn a.tmps).run P w = .ok (.tuple #[v, v2]) w := by
    rw [results_tmp2 hr]
    simp [Array.getD_eq_getD_getElem?, ha.has s v hs, ha.has u v2 hu]
  rcases he with rfl | rfl <;> exact ⟨ha.defs, _, hres, hR⟩

end
end Go.Proofs.YthcpjcgjmdfpjaaDoor
