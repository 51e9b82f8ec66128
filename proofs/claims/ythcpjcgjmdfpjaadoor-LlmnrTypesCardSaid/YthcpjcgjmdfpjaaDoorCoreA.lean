/- Words, contracts and walks that several statements share (CoreA): Base, Sym, Ops, Ops2, Ops3, Facts, Strs, Spec, Lower, Split, Right, Names, Join, Reader, Eq, Recs. -/
import Derived.Test.YthcpjcgjmdfpjaaDoorProg
import Derived.WalkKit
import Derived.KernelRfl
import Derived.Maps.AppendAt
import Derived.Deep.LoopGhost
import Derived.OrdersHeld
import Derived.Lib.AppendStr
import Derived.Laws.BytesArg
import Derived.Lib.Hide
import Derived.Laws.StructEq
namespace Go.Proofs.YthcpjcgjmdfpjaaDoor
open Go Go.RowKit

/-- A byte as a cell. -/
def u8v (b : UInt8) : Value := .int .u8 (b.toNat : Int)
/-- A string of bytes as a value. -/
def sv (l : List UInt8) : Value := .string ⟨l.toArray⟩

theorem sv_of (s : ByteArray) : Value.string s = sv s.data.toList := by
  unfold sv; rcases s with ⟨a⟩; simp

/-- The lowest byte of a number. -/
def byteOf (x : Int) : UInt8 := UInt8.ofNat (x % 256).toNat
theorem byteOf_toNat (x : Int) : ((byteOf x).toNat : Int) = x % 256 := by
  unfold byteOf
  have h1 : 0 ≤ x % 256 := by omega
  have h2 : x % 256 < 256 := by omega
  rw [UInt8.toNat_ofNat']
  omega

/-- A slice of bytes that the call owns. -/
def Buf (w : World) (base : Nat) (v : Value) (l : List UInt8) : Prop := w.ownsRow base 5 1 v l.length (l.map u8v)

theorem u8v_one (l : List UInt8) : ∀ u ∈ l.map u8v, u.oneCell' = true := by
  intro u hu
  obtain ⟨_, _, rfl⟩ := List.mem_map.1 hu
  rfl

/-- What an append, or several, leave: all old blocks but the slice's own are as they were; the new slice lies in the old one's block or in a new one. -/
structure Moved (w w' : World) (v v' : Value) : Prop where
  g : w.grownBy w' v.ownBlock
  at_ : v'.ownBlock = v.ownBlock ∨ ∃ k, v'.ownBlock = some k ∧ w.heap.size ≤ k

theorem Moved.refl (w : World) (v : Value) : Moved w w v v := ⟨World.grownBy.refl _ _, .inl rfl⟩
theorem Moved.trans {w w1 w2 : World} {v v1 v2 : Value} (h : Moved w w1 v v1) (k : Moved w1 w2 v1 v2) : Moved w w2 v v2 := by
  refine ⟨⟨k.g.os.trans h.g.os, k.g.tape.trans h.g.tape, k.g.output.trans h.g.output, Nat.le_trans h.g.size k.g.size, fun i hi hne => ?_⟩, ?_⟩
  · refine (k.g.block i (Nat.lt_of_lt_of_le hi h.g.size) ?_).trans (h.g.block i hi hne)
    rcases h.at_ with e | ⟨b, e, hb⟩
    · rw [e]; exact hne
    · rw [e]; intro e2; have := Option.some.inj e2; omega
  · rcases k.at_ with e | ⟨b, e, hb⟩
    · rcases h.at_ with e1 | ⟨b1, e1, hb1⟩
      · exact .inl (e.trans e1)
      · exact .inr ⟨b1, e.trans e1, hb1⟩
    · exact .inr ⟨b, e, Nat.le_trans h.g.size hb⟩
theorem Moved.alloc {w w1 : World} {v v1 : Value} (h : Moved w w1 v v1) (o : Obj) : Moved w (w1.alloc o) v v1 :=
  h.trans ⟨World.grownBy_alloc _ _ _, .inl rfl⟩
theorem Moved.drew {w w1 : World} {v v1 : Value} (h : Moved w w1 v v1) : Moved w w1.drew v v1 :=
  ⟨⟨h.g.os, h.g.tape, h.g.output, h.g.size, h.g.block⟩, h.at_⟩
theorem Moved.of_own {w w1 w2 : World} {v v1 v2 : Value} (h : Moved w w1 v v1) (hg : w1.grownBy w2 v1.ownBlock) (hat : v2.ownBlock = v1.ownBlock ∨ v2.ownBlock = some w1.heap.size) : Moved w w2 v v2 :=
  h.trans ⟨hg, hat.imp id (fun e => ⟨_, e, Nat.le_refl _⟩)⟩

theorem Tryd.info5 : (Tryd.prog.info? 5).map (fun i => (i.zero, i.size, i.bytes)) = some (some (.int .u8 0), 1, 1) := by kernel_rfl
theorem Tryd.info9 : (Tryd.prog.info? 9).map (fun i => (i.zero, i.size, i.bytes)) = some (some (.string ⟨#[]⟩), 1, 16) := by kernel_rfl

/-- A number's n lowest bytes, the highest first. -/
def beN : Nat → Int → List UInt8
  | 0, _ => []
  | n + 1, x => byteOf (x / 2 ^ (8 * n)) :: beN n x
theorem beN_length (n : Nat) (x : Int) : (beN n x).length = n := by induction n with
  | zero => rfl
  | succ n ih => simp [beN, ih]

end Go.Proofs.YthcpjcgjmdfpjaaDoor

namespace Go.Proofs.YthcpjcgjmdfpjaaDoor
open Go Go.RowKit

/-! ### What of memory has turned -/

/-- Only blocks of which S speaks, and new ones, have turned. -/
structure Chg (S : Nat → Prop) (w w' : World) : Prop where
  os : w'.os = w.os
  tape : w'.tape = w.tape
  output : w'.output = w.output
  size : w.heap.size ≤ w'.heap.size
  block : ∀ k, k < w.heap.size → ¬ S k → w'.heap[k]? = w.heap[k]?

theorem Chg.refl (S : Nat → Prop) (w : World) : Chg S w w := ⟨rfl, rfl, rfl, Nat.le_refl _, fun _ _ _ => rfl⟩
theorem Chg.trans {S : Nat → Prop} {a b c : World} (h : Chg S a b) (k : Chg S b c) : Chg S a c :=
  ⟨k.os.trans h.os, k.tape.trans h.tape, k.output.trans h.output, Nat.le_trans h.size k.size, fun i hi hn => (k.block i (Nat.lt_of_lt_of_le hi h.size) hn).trans (h.block i hi hn)⟩
theorem Chg.mono {S S' : Nat → Prop} {w w' : World} (h : Chg S w w') (hs : ∀ k, k < w.heap.size → S k → S' k) : Chg S' w w' :=
  ⟨h.os, h.tape, h.output, h.size, fun k hk hn => h.block k hk (fun hS => hn (hs k hk hS))⟩
/-- The second step may turn what is new since the first world. -/
theorem Chg.then {S S' : Nat → Prop} {a b c : World} (h : Chg S a b) (k : Chg S' b c) (hs : ∀ j, j < a.heap.size → S' j → S j) : Chg S a c :=
  ⟨k.os.trans h.os, k.tape.trans h.tape, k.output.trans h.output, Nat.le_trans h.size k.size, fun i hi hn => (k.block i (Nat.lt_of_lt_of_le hi h.size) (fun hS => hn (hs i hi hS))).trans (h.block i hi hn)⟩
theorem Chg.at {S : Nat → Prop} {w w' : World} (h : Chg S w w') {k : Nat} {o : Obj} (hk : w.heap[k]? = some o) (hn : ¬ S k) : w'.heap[k]? = some o :=
  (h.block k (Array.getElem?_eq_some_iff.1 hk).1 hn).trans hk
theorem Chg.alloc (S : Nat → Prop) (w : World) (o : Obj) : Chg S w (w.alloc o) :=
  ⟨rfl, rfl, rfl, by simp, fun k hk _ => Below.heap_alloc w o k hk⟩
theorem Chg.drew (S : Nat → Prop) (w : World) : Chg S w w.drew := ⟨rfl, rfl, rfl, Nat.le_refl _, fun _ _ _ => rfl⟩
theorem Chg.setRow {S : Nat → Prop} (w : World) (g : Nat) (cs : Array Value) (h : S g) : Chg S w (w.setRow g cs) :=
  ⟨rfl, rfl, rfl, by simp, fun k _ hn => setRow_other w g k cs (fun e => hn (e ▸ h))⟩
theorem Chg.setCell {S : Nat → Prop} (w : World) (a : Addr) (v : Value) (h : S a.block) : Chg S w (w.setCell a v) :=
  ⟨rfl, rfl, rfl, by simp [World.setCell], fun k _ hn => Below.heap_setCell w a v k (fun e => hn (e ▸ h))⟩
theorem Chg.grown {w w' : World} {row : Option Nat} (h : w.grownBy w' row) : Chg (fun k => some k = row) w w' := ⟨h.os, h.tape, h.output, h.size, h.block⟩
theorem Chg.below {B : Nat} {w w' : World} (h : Chg (fun k => B ≤ k) w w') (hB : B ≤ w.heap.size) : Below B w w' :=
  ⟨h.os, h.tape, h.output, h.size, fun k hk => h.block k (Nat.lt_of_lt_of_le hk hB) (by omega)⟩

/-! ### Frames of which some slots are known -/

abbrev Env := List (Nat × Value)
def Env.get : Env → Nat → Option Value
  | [], _ => none
  | (k, v) :: r, j => match Nat.beq k j with | true => some v | false => Env.get r j

structure Fr (a : Act) (n : Nat) (l : Env) : Prop where
  size : a.tmps.size = n
  defs : a.defers = []
  has : ∀ k v, Env.get l k = some v → a.tmps[k]? = some v

def ev (l : Env) : Operand → Option Value
  | .tmp t => Env.get l t
  | .const v => some v
  | .global g => some (.pointer (some ⟨g, 0, none⟩))
  | .func f => some (.func (.func f) #[] #[])

theorem Fr.ev {a : Act} {n : Nat} {l : Env} (h : Fr a n l) {x : Operand} {v : Value} (hv : ev l x = some v) : a.eval x = v := by
  cases x with
  | tmp t => have := h.has t v hv; simp [Act.eval, Array.getD_eq_getD_getElem?, this]
  | const c => exact Option.some.inj hv
  | global g => exact Option.some.inj hv
  | func f => exact Option.some.inj hv

theorem Fr.put {a : Act} {n : Nat} {l : Env} (h : Fr a n l) {d : Nat} (hd : d < n) (v : Value) : Fr (a.put (some d) v) n ((d, v) :: l) := by
  refine ⟨by simp [Act.put, h.size], h.defs, fun k u hk => ?_⟩
  simp only [Act.put]
  rw [Array.getElem?_setIfInBounds]
  by_cases e : d = k
  · subst e
    have : Env.get ((d, v) :: l) d = some v := by simp [Env.get]
    rw [this] at hk
    rw [if_pos rfl, if_pos (by rw [h.size]; exact hd)]
    exact hk
  · rw [if_neg e]
    refine h.has k u ?_
    have hb : Nat.beq d k = false := by
      cases hq : Nat.beq d k with
      | false => rfl
      | true => exact absurd (Nat.eq_of_beq_eq_true hq) e
    simpa [Env.get, hb] using hk

theorem Fr.weaken {a : Act} {n : Nat} {l l' : Env} (h : Fr a n l) (hs : ∀ k v, Env.get l' k = some v → Env.get l k = some v) : Fr a n l' :=
  ⟨h.size, h.defs, fun k v hk => h.has k v (hs k v hk)⟩

/-- Keep only these slots. -/
def Env.keep (l : Env) : List Nat → Env
  | [] => []
  | k :: ks => match Env.get l k with
    | some v => (k, v) :: Env.keep l ks
    | none => Env.keep l ks
theorem Env.keep_get (l : Env) : ∀ (ks : List Nat) (k : Nat) (v : Value), Env.get (Env.keep l ks) k = some v → Env.get l k = some v
  | [], _, _, h => by simp [Env.keep, Env.get] at h
  | j :: ks, k, v, h => by
    unfold Env.keep at h
    split at h
    · rename_i u hu
      simp only [Env.get] at h
      cases hb : Nat.beq j k with
      | true => rw [hb] at h; simp only at h; have := Nat.eq_of_beq_eq_true hb; subst this; rw [hu]; exact h
      | false => rw [hb] at h; exact Env.keep_get l ks k v h
    · exact Env.keep_get l ks k v h
theorem Fr.keep {a : Act} {n : Nat} {l : Env} (h : Fr a n l) (ks : List Nat) : Fr a n (Env.keep l ks) := h.weaken (Env.keep_get l ks)

/-! ### Operations -/
section
variable {P : Program} {ops : Array Oper} {Q : Exit → Act → World → Prop} {rest : List Oper} {n : Nat} {l : Env} {w w' : World} {o : Oper} {v : Value}

/-- A list of operations, from every frame of which this is known. -/
def WL (P : Program) (ops : Array Oper) (Q : Exit → Act → World → Prop) (rest : List Oper) (n : Nat) (l : Env) (w : World) : Prop :=
  ∀ a, Fr a n l → wpList P ops Q rest a w
/-- Code, from every frame of which this is known. -/
def CW (P : Program) (c : Code) (Q : Exit → Act → World → Prop) (n : Nat) (l : Env) (w : World) : Prop := ∀ a, Fr a n l → c.wp P Q a w
/-- What stands behind an exit, from every frame of which this is known. -/
def EW (Q : Exit → Act → World → Prop) (e : Exit) (n : Nat) (l : Env) (w : World) : Prop := ∀ a, Fr a n l → Q e a w

/-- The operation yields v and leaves w'. -/
def Runs (P : Program) (l : Env) (o : Op) (w : World) (v : Value) (w' : World) : Prop :=
  ∀ (e : Operand → Value) (t : TypeId) (pos : String) (dst : Option Tmp) (af : Array Edge) (gd : Option (Nat × Bool)), (∀ x u, ev l x = some u → e x = u) → (execOp e ⟨dst, o, t, pos, af, gd⟩).run P w = .ok (.value v) w'
/-- The operation leaves w', and no value. -/
def RunsU (P : Program) (l : Env) (o : Op) (w w' : World) : Prop :=
  ∀ (e : Operand → Value) (t : TypeId) (pos : String) (dst : Option Tmp) (af : Array Edge) (gd : Option (Nat × Bool)), (∀ x u, ev l x = some u → e x = u) → (execOp e ⟨dst, o, t, pos, af, gd⟩).run P w = .ok .skip w'

variable {q : Op} {t : TypeId} {pos : String} {af : Array Edge} {d : Nat}

theorem WL.op (hdn : d < n) (hr : Runs P l q w v w') (h : WL P ops Q rest n ((d, v) :: l) w') : WL P ops Q (⟨some d, q, t, pos, af, none⟩ :: rest) n l w := by
  intro a ha
  refine wpList_plain rfl fun K hK => ?_
  unfold Oper.wp
  rw [hr a.eval t pos _ af none (fun x u hx => ha.ev hx), Oper.upon_value]
  exact hK _ _ (h _ (ha.put hdn v))

theorem WL.st (hr : RunsU P l q w w') (h : WL P ops Q rest n l w') : WL P ops Q (⟨none, q, t, pos, af, none⟩ :: rest) n l w := by
  intro a ha
  refine wpList_plain rfl fun K hK => ?_
  unfold Oper.wp
  rw [hr a.eval t pos _ af none (fun x u hx => ha.ev hx), Oper.upon_skip]
  exact hK _ _ (h _ ha)

theorem yielded_of {a : Act} {j s : Nat} {b : Bool} (ha : Fr a n l) (hj : (ops[j]?).bind (·.dst) = some s) (hs : Env.get l s = some (.bool b)) : yielded ops a.tmps j = some b := by
  unfold yielded
  rw [hj]
  simp [ha.has s _ hs]

/-- A guarded operation that is passed over. -/
theorem WL.pass {j s : Nat} {b want : Bool} (hdn : d < n) (hj : (ops[j]?).bind (·.dst) = some s) (hs : Env.get l s = some (.bool b)) (hne : (b == want) = false)
    (h : WL P ops Q rest n ((d, undef) :: l) w) : WL P ops Q (⟨some d, q, t, pos, af, some (j, want)⟩ :: rest) n l w := by
  intro a ha
  refine wpList_skip ?_ (h _ (ha.put hdn undef))
  simp only [Region.wanted, yielded_of ha hj hs]
  cases b <;> cases want <;> first | rfl | cases hne

/-- A guarded operation whose guard was itself passed over. -/
theorem WL.passU {j s : Nat} {want : Bool} (hdn : d < n) (hj : (ops[j]?).bind (·.dst) = some s) (hs : Env.get l s = some undef)
    (h : WL P ops Q rest n ((d, undef) :: l) w) : WL P ops Q (⟨some d, q, t, pos, af, some (j, want)⟩ :: rest) n l w := by
  intro a ha
  refine wpList_skip ?_ (h _ (ha.put hdn undef))
  have : yielded ops a.tmps j = none := by
    unfold yielded
    rw [hj]
    simp [ha.has s _ hs, undef]
  simp only [Region.wanted, this]
  rfl

/-- A guarded operation that is carried out. -/
theorem WL.gop {j s : Nat} {b want : Bool} (hdn : d < n) (hj : (ops[j]?).bind (·.dst) = some s) (hs : Env.get l s = some (.bool b)) (hne : (b == want) = true)
    (hr : Runs P l q w v w') (h : WL P ops Q rest n ((d, v) :: l) w') : WL P ops Q (⟨some d, q, t, pos, af, some (j, want)⟩ :: rest) n l w := by
  intro a ha
  refine wpList_step fun K hK => ?_
  have hw : Region.wanted ⟨some d, q, t, pos, af, some (j, want)⟩ (yielded ops a.tmps) = true := by
    simp only [Region.wanted, yielded_of ha hj hs]
    cases b <;> cases want <;> first | rfl | cases hne
  rw [if_pos hw]
  unfold Oper.wp
  rw [hr a.eval t pos _ af _ (fun x u hx => ha.ev hx), Oper.upon_value]
  exact hK _ _ (h _ (ha.put hdn v))

theorem WL.keep (ks : List Nat) (h : WL P ops Q rest n (Env.keep l ks) w) : WL P ops Q rest n l w := fun a ha => h a (ha.keep ks)
theorem CW.keep {c : Code} (ks : List Nat) (h : CW P c Q n (Env.keep l ks) w) : CW P c Q n l w := fun a ha => h a (ha.keep ks)

/-! ### Code -/
variable {c c2 : Code} {id : Nat}
theorem WL.next (h : CW P c Q n l w) : WL P ops (Exit.then (c.wp P Q) Q) [] n l w := fun a ha => h a ha
theorem WL.nil (h : EW Q .normal n l w) : WL P ops Q [] n l w := fun a ha => h a ha
theorem CW.seq (h : CW P c (Exit.then (c2.wp P Q) Q) n l w) : CW P (.seq c c2) Q n l w := fun a ha => wp_seq (h a ha)
theorem CW.region {os : List Oper} (h : WL P os.toArray Q os n l w) : CW P (.region id os.toArray false) Q n l w := fun a ha => wp_region_lit (h a ha)
/-- A region, and what follows. -/
theorem CW.rseq {os : List Oper} (h : WL P os.toArray (Exit.then (c2.wp P Q) Q) os n l w) : CW P (.seq (.region id os.toArray false) c2) Q n l w := CW.seq (CW.region h)
theorem CW.skip (h : EW Q .normal n l w) : CW P .skip Q n l w := fun a ha => wp_skip (h a ha)
theorem CW.exit (h : EW Q (.exit id) n l w) : CW P (.exit id) Q n l w := fun a ha => wp_exit (h a ha)
theorem CW.ret (h : EW Q .ret n l w) : CW P .ret Q n l w := fun a ha => wp_ret (h a ha)
theorem CW.block (h : CW P c (Exit.inBlock id Q) n l w) : CW P (.block id c) Q n l w := fun a ha => wp_block (h a ha)
theorem CW.condT {x : Operand} (hc : ev l x = some (.bool true)) (h : CW P c Q n l w) : CW P (.cond x c c2) Q n l w := fun a ha => wp_cond_true (ha.ev hc) (h a ha)
theorem CW.condF {x : Operand} (hc : ev l x = some (.bool false)) (h : CW P c2 Q n l w) : CW P (.cond x c c2) Q n l w := fun a ha => wp_cond_false (ha.ev hc) (h a ha)
theorem EW.next (h : CW P c Q n l w) : EW (Exit.then (c.wp P Q) Q) .normal n l w := fun a ha => h a ha
theorem EW.thenExit {N : Act → World → Prop} {i : Nat} (h : EW Q (.exit i) n l w) : EW (Exit.then N Q) (.exit i) n l w := fun a ha => h a ha
theorem EW.thenRet {N : Act → World → Prop} (h : EW Q .ret n l w) : EW (Exit.then N Q) .ret n l w := fun a ha => h a ha
theorem EW.inHere (h : EW Q .normal n l w) : EW (Exit.inBlock id Q) (.exit id) n l w := fun a ha => by
  show (if id = id then Q .normal a w else _); rw [if_pos rfl]; exact h a ha
theorem EW.inFar {i : Nat} (hne : i ≠ id) (h : EW Q (.exit i) n l w) : EW (Exit.inBlock id Q) (.exit i) n l w := fun a ha => by
  show (if i = id then _ else Q (.exit i) a w); rw [if_neg hne]; exact h a ha
theorem EW.inNormal (h : EW Q .normal n l w) : EW (Exit.inBlock id Q) .normal n l w := fun a ha => h a ha
theorem EW.inRet (h : EW Q .ret n l w) : EW (Exit.inBlock id Q) .ret n l w := fun a ha => h a ha

/-- A loop: the invariant speaks of the known slots, the world, and a number that each round lowers. -/
theorem CW.loop (I : Nat → Env → World → Prop) (m : Nat) (h0 : I m l w)
    (round : ∀ m l w, I m l w → CW P c (Exit.then (fun a' w' => ∃ m' l', m' < m ∧ Fr a' n l' ∧ I m' l' w') Q) n l w) : CW P (.loop c) Q n l w := by
  have key : ∀ m l w, I m l w → ∀ a, Fr a n l → (Code.loop c).wp P Q a w := by
    intro m l w hI a ha
    refine wp_loop (fun a w => ∃ m l, Fr a n l ∧ I m l w) (fun a w => Classical.epsilon (fun k => (∃ l, Fr a n l ∧ I k l w) ∧ ∀ j, (∃ l, Fr a n l ∧ I j l w) → k ≤ j)) ⟨m, l, ha, hI⟩ ?_
    intro a w ⟨m, l, ha, hI⟩
    have least : ∀ (p : Nat → Prop) (k : Nat), p k → ∃ k, p k ∧ ∀ j, p j → k ≤ j := by
      intro p k
      induction k using Nat.strongRecOn with
      | _ k ih =>
        intro hk
        by_cases hex : ∃ j, j < k ∧ p j
        · obtain ⟨j, hj, hpj⟩ := hex; exact ih j hj hpj
        · exact ⟨k, hk, fun j hj => Nat.le_of_not_lt (fun hlt => hex ⟨j, hlt, hj⟩)⟩
    have hex := least (fun k => ∃ l, Fr a n l ∧ I k l w) m ⟨l, ha, hI⟩
    have hsp := Classical.epsilon_spec hex
    obtain ⟨l0, ha0, hI0⟩ := hsp.1
    refine wp_mono (round _ l0 w hI0 a ha0) ?_
    intro e a' w' hq
    cases e with
    | normal =>
      obtain ⟨m', l', hlt, ha', hI'⟩ := hq
      refine ⟨⟨m', l', ha', hI'⟩, ?_⟩
      have hex' := least (fun k => ∃ l, Fr a' n l ∧ I k l w') m' ⟨l', ha', hI'⟩
      exact Nat.lt_of_le_of_lt ((Classical.epsilon_spec hex').2 m' ⟨l', ha', hI'⟩) hlt
    | _ => exact hq
  exact fun a ha => key m l w h0 a ha

/-- A loop, entered with these slots alone. -/
theorem CW.loopK (ks : List Nat) (I : Nat → Env → World → Prop) (m : Nat) (h0 : I m (Env.keep l ks) w)
    (round : ∀ m l w, I m l w → CW P c (Exit.then (fun a' w' => ∃ m' l', m' < m ∧ Fr a' n l' ∧ I m' l' w') Q) n l w) : CW P (.loop c) Q n l w :=
  CW.keep ks (CW.loop I m h0 round)

/-- The end of a round. -/
theorem EW.round {I : Nat → Env → World → Prop} {m : Nat} (m' : Nat) (l' : Env) (hlt : m' < m) (hl : ∀ k v, Env.get l' k = some v → Env.get l k = some v) (hI : I m' l' w) :
    EW (Exit.then (fun a' w' => ∃ m' l', m' < m ∧ Fr a' n l' ∧ I m' l' w') Q) .normal n l w := fun _a ha => ⟨m', l', hlt, ha.weaken hl, hI⟩

theorem EW.roundK (ks : List Nat) {I : Nat → Env → World → Prop} {m : Nat} (m' : Nat) (hlt : m' < m) (hI : I m' (Env.keep l ks) w) :
    EW (Exit.then (fun a' w' => ∃ m' l', m' < m ∧ Fr a' n l' ∧ I m' l' w') Q) .normal n l w := EW.round m' _ hlt (Env.keep_get l ks) hI

/-- A cut: where the ways meet again. -/
theorem CW.cut (M : Env → World → Prop) (h1 : CW P c (Exit.then (fun a' w' => ∃ l', Fr a' n l' ∧ M l' w') Q) n l w) (h2 : ∀ l w, M l w → CW P c2 Q n l w) : CW P (.seq c c2) Q n l w := by
  intro a ha
  refine wp_seq (wp_mono (h1 a ha) ?_)
  intro e a' w' hq
  cases e with
  | normal => obtain ⟨l', ha', hM⟩ := hq; exact h2 l' w' hM a' ha'
  | _ => exact hq
theorem EW.cut {M : Env → World → Prop} (l' : Env) (hl : ∀ k v, Env.get l' k = some v → Env.get l k = some v) (hM : M l' w) :
    EW (Exit.then (fun a' w' => ∃ l', Fr a' n l' ∧ M l' w') Q) .normal n l w := fun _a ha => ⟨l', ha.weaken hl, hM⟩

theorem EW.cutK (ks : List Nat) {M : Env → World → Prop} (hM : M (Env.keep l ks) w) :
    EW (Exit.then (fun a' w' => ∃ l', Fr a' n l' ∧ M l' w') Q) .normal n l w := EW.cut _ (Env.keep_get l ks) hM

/-! ### Begin and end of a call -/
theorem calls_cw {f : FuncId} {fn : Func} {c : Code} {args : List Value} {R : Ending → World → Prop} (hf : P.funcs[f]? = some fn) (hb : fn.body = some c) (hn0 : Nat.ble args.length fn.ntmps = true)
    (h : CW P c (bodyPost P fn R) fn.ntmps ((List.range args.length).zip args) w) : Calls P f args.toArray w R := by
  have hn := Nat.le_of_ble_eq_true hn0
  refine calls_of_wp hf hb (h _ ?_)
  refine ⟨by simp; omega, rfl, ?_⟩
  intro k v hk
  have key : ∀ (args : List Value) (b : Nat), Env.get ((List.range' b args.length).zip args) k = some v → b ≤ k ∧ args[k - b]? = some v := by
    intro args
    induction args with
    | nil => intro b h; simp [Env.get] at h
    | cons x xs ih =>
      intro b h
      simp only [List.length_cons, List.range'_succ, List.zip_cons_cons, Env.get] at h
      cases hb : Nat.beq b k with
      | true =>
        rw [hb] at h
        have := Nat.eq_of_beq_eq_true hb
        subst this
        simpa using h
      | false =>
        rw [hb] at h
        obtain ⟨h1, h2⟩ := ih (b + 1) h
        refine ⟨by omega, ?_⟩
        rw [show k - b = (k - (b + 1)) + 1 by omega]
        simpa using h2
  have := key args 0 (by rw [← List.range_eq_range']; exact hk)
  obtain ⟨_, h2⟩ := this
  simp only [Nat.sub_zero] at h2
  have hlt : k < args.length := (List.getElem?_eq_some_iff.1 h2).1
  simp [Array.getElem?_append, hlt]
  simpa [List.getElem?_eq_getElem hlt] using h2

theorem EW.ret1 {fn : Func} {R : Ending → World → Prop} {e : Exit} {s : Nat} {v : Value} (he : e = .ret ∨ e = .normal) (hr : fn.results = #[.tmp s]) (hs : Env.get l s = some v) (hR : R (.returned v) w) : EW (bodyPost P fn R) e n l w := by
  intro a ha
  have hres : (results fn a.tmps).run P w = .ok v w := by
    rw [results_tmp hr]
    simp [Array.getD_eq_getD_getElem?, ha.has s v hs]
  rcases he with rfl | rfl <;> exact ⟨ha.defs, v, hres, hR⟩
theorem EW.ret0 {fn : Func} {R : Ending → World → Prop} {e : Exit} (he : e = .ret ∨ e = .normal) (hr : fn.results = #[]) (hR : R (.returned (.tuple #[])) w) : EW (bodyPost P fn R) e n l w := by
  intro a ha
  have hres : (results fn a.tmps).run P w = .ok (.tuple #[]) w := results_none hr _ _ _
  rcases he with rfl | rfl <;> exact ⟨ha.defs, _, hres, hR⟩
theorem EW.ret2 {fn : Func} {R : Ending → World → Prop} {e : Exit} {s u : Nat} {v v2 : Value} (he : e = .ret ∨ e = .normal) (hr : fn.results = #[.tmp s, .tmp u]) (hs : Env.get l s = some v) (hu : Env.get l u = some v2) (hR : R (.returned (.tuple #[v, v2])) w) : EW (bodyPost P fn R) e n l w := by
  intro a ha
  have hres : (results fn a.tmps).run P w = .ok (.tuple #[v, v2]) w := by
    rw [results_tmp2 hr]
    simp [Array.getD_eq_getD_getElem?, ha.has s v hs, ha.has u v2 hu]
  rcases he with rfl | rfl <;> exact ⟨ha.defs, _, hres, hR⟩

end
end Go.Proofs.YthcpjcgjmdfpjaaDoor

namespace Go.Proofs.YthcpjcgjmdfpjaaDoor
open Go Go.RowKit

def isAggD : TypeDesc → Bool
  | .struct _ => true
  | .array _ _ => true
  | _ => false

section
variable {P : Program} {l : Env} {w : World} {x y z : Operand} {v u : Value} {t e ty : TypeId}

theorem R.move (h : ev l x = some v) : Runs P l (.move x) w v w := fun r _ _ _ _ _ he => by
  simp only [execOp, he x v h]; rfl
theorem R.assign (h : ev l x = some v) : Runs P l (.assign x) w v w := fun r _ _ _ _ _ he => by
  simp only [execOp, he x v h]; rfl
theorem R.pickT (hc : ev l x = some (.bool true)) (h : ev l y = some v) : Runs P l (.pick x y z) w v w := fun r _ _ _ _ _ he => by
  simp only [execOp, he x _ hc, he y v h]; rfl
theorem R.pickF (hc : ev l x = some (.bool false)) (h : ev l z = some v) : Runs P l (.pick x y z) w v w := fun r _ _ _ _ _ he => by
  simp only [execOp, he x _ hc, he z v h]; rfl
theorem R.not {b : Bool} (h : ev l x = some (.bool b)) : Runs P l (.unOp .not t x) w (.bool !b) w := fun r _ _ _ _ _ he => by
  simp only [execOp, he x _ h]; rfl

/-! ### Whole numbers -/
theorem R.bin {op : BinOp} {k : IntKind} {a b : Int} (hx : ev l x = some (.int k a)) (hy : ev l y = some (.int k b)) (h : binOp op t (.int k a) (.int k b) = pure v) : Runs P l (.binOp op t x y ty) w v w := fun r _ _ _ _ _ he => by
  simp only [execOp, he x _ hx, he y _ hy, eqGuard, h]
  cases op <;> rfl
theorem R.binS {op : BinOp} {k k' : IntKind} {a b : Int} (hx : ev l x = some (.int k a)) (hy : ev l y = some (.int k' b)) (h : binOp op t (.int k a) (.int k' b) = pure v) : Runs P l (.binOp op t x y ty) w v w := fun r _ _ _ _ _ he => by
  simp only [execOp, he x _ hx, he y _ hy, eqGuard, h]
  cases op <;> rfl

theorem R.add {a b : Int} (hx : ev l x = some (.int .i64 a)) (hy : ev l y = some (.int .i64 b)) (h : -9223372036854775808 ≤ a + b ∧ a + b ≤ 9223372036854775807) : Runs P l (.binOp .add t x y ty) w (.int .i64 (a + b)) w :=
  R.bin hx hy (by simp only [binOp, Op.intArith, ne_eq, not_true, ite_false, IntWalk.i64_in _ h])
theorem R.sub {a b : Int} (hx : ev l x = some (.int .i64 a)) (hy : ev l y = some (.int .i64 b)) (h : -9223372036854775808 ≤ a - b ∧ a - b ≤ 9223372036854775807) : Runs P l (.binOp .sub t x y ty) w (.int .i64 (a - b)) w :=
  R.bin hx hy (by simp only [binOp, Op.intArith, ne_eq, not_true, ite_false, IntWalk.i64_in _ h])
theorem R.mul {a b : Int} (hx : ev l x = some (.int .i64 a)) (hy : ev l y = some (.int .i64 b)) (h : -9223372036854775808 ≤ a * b ∧ a * b ≤ 9223372036854775807) : Runs P l (.binOp .mul t x y ty) w (.int .i64 (a * b)) w :=
  R.bin hx hy (by simp only [binOp, Op.intArith, ne_eq, not_true, ite_false, IntWalk.i64_in _ h])
theorem R.addu8 {a b : Int} (hx : ev l x = some (.int .u8 a)) (hy : ev l y = some (.int .u8 b)) (h : 0 ≤ a + b ∧ a + b ≤ 255) : Runs P l (.binOp .add t x y ty) w (.int .u8 (a + b)) w :=
  R.bin hx hy (by simp only [binOp, Op.intArith, ne_eq, not_true, ite_false, IntWalk.u8_in _ h])
theorem R.shr {a b : Int} {k' : IntKind} (hx : ev l x = some (.int .i64 a)) (hy : ev l y = some (.int k' b)) (h : 0 ≤ b ∧ b ≤ 64) : Runs P l (.binOp .shr t x y ty) w (.int .i64 (a / 2 ^ b.toNat)) w :=
  R.binS hx hy (by
    have h1 : ¬ b < 0 := by omega
    have h2 : min b.toNat IntKind.i64.bits = b.toNat := by simp only [IntKind.bits]; omega
    have h3 : a.fdiv (2 ^ b.toNat) = a / 2 ^ b.toNat := Int.fdiv_eq_ediv_of_nonneg _ (Int.le_of_lt (Int.pow_pos (by decide)))
    simp only [binOp, Op.shift, h1, if_false, h2, h3])
theorem R.shl {a b : Int} {k' : IntKind} (hx : ev l x = some (.int .i64 a)) (hy : ev l y = some (.int k' b)) (h : 0 ≤ b ∧ b ≤ 64) (hr : -9223372036854775808 ≤ a * 2 ^ b.toNat ∧ a * 2 ^ b.toNat ≤ 9223372036854775807) : Runs P l (.binOp .shl t x y ty) w (.int .i64 (a * 2 ^ b.toNat)) w :=
  R.binS hx hy (by
    have h1 : ¬ b < 0 := by omega
    have h2 : min b.toNat IntKind.i64.bits = b.toNat := by simp only [IntKind.bits]; omega
    simp only [binOp, Op.shift, h1, if_false, h2, IntWalk.i64_in _ hr])

section cmp
variable {k : IntKind} {a b : Int}
theorem R.lss (hx : ev l x = some (.int k a)) (hy : ev l y = some (.int k b)) {c : Bool} (h : decide (a < b) = c) : Runs P l (.binOp .lss t x y ty) w (.bool c) w :=
  R.bin hx hy (by simp only [binOp, Op.intCmp, ne_eq, not_true, ite_false, h])
theorem R.leq (hx : ev l x = some (.int k a)) (hy : ev l y = some (.int k b)) {c : Bool} (h : decide (a ≤ b) = c) : Runs P l (.binOp .leq t x y ty) w (.bool c) w :=
  R.bin hx hy (by simp only [binOp, Op.intCmp, ne_eq, not_true, ite_false, h])
theorem R.gtr (hx : ev l x = some (.int k a)) (hy : ev l y = some (.int k b)) {c : Bool} (h : decide (a > b) = c) : Runs P l (.binOp .gtr t x y ty) w (.bool c) w :=
  R.bin hx hy (by simp only [binOp, Op.intCmp, ne_eq, not_true, ite_false, h])
theorem R.geq (hx : ev l x = some (.int k a)) (hy : ev l y = some (.int k b)) {c : Bool} (h : decide (a ≥ b) = c) : Runs P l (.binOp .geq t x y ty) w (.bool c) w :=
  R.bin hx hy (by simp only [binOp, Op.intCmp, ne_eq, not_true, ite_false, h])
theorem R.eql (hx : ev l x = some (.int k a)) (hy : ev l y = some (.int k b)) {c : Bool} (h : decide (a = b) = c) : Runs P l (.binOp .eql t x y ty) w (.bool c) w :=
  R.bin hx hy (by
    have : (a == b) = c := by rw [← h]; by_cases e : a = b <;> simp [e]
    simp only [binOp, Op.intCmp, ne_eq, not_true, ite_false, this])
theorem R.neq (hx : ev l x = some (.int k a)) (hy : ev l y = some (.int k b)) {c : Bool} (h : decide (a ≠ b) = c) : Runs P l (.binOp .neq t x y ty) w (.bool c) w :=
  R.bin hx hy (by
    have : (a != b) = c := by rw [← h]; by_cases e : a = b <;> simp [e]
    simp only [binOp, Op.intCmp, ne_eq, not_true, ite_false, this])
end cmp

theorem R.convInt {k k' : IntKind} {a : Int} {src dst : TypeId} {d : TypeDesc} (hs : P.underlying src = some d) (hd : P.underlying dst = some (.int k')) (hx : ev l x = some (.int k a)) {b : Int} (hb : k'.wrap a = b) : Runs P l (.convert src dst x) w (.int k' b) w := fun r _ _ _ _ _ he => by
  simp only [execOp, he x _ hx, convert, Sem.run_bind, run_underlying hs, run_underlying hd, Result.andThen_ok, Conv.intToInt, hb]
  cases d <;> rfl

/-! ### Strings and slices -/
theorem R.lenStr {s : ByteArray} {cs : Array TypeId} (hc : cs[0]? = some t) (ht : P.underlying t = some .string) (hx : ev l x = some (.string s)) : Runs P l (.call { callee := .builtin .len, args := #[x], argTypes := cs }) w (.int .i64 s.size) w := fun r _ _ _ _ _ he => by
  simp [execOp, resolve, invoke, builtin, Builtin.len_, he x _ hx, hc, run_underlying ht, goInt]
theorem R.lenSlice {a : Option Addr} {m c : Nat} {cs : Array TypeId} (hc : cs[0]? = some t) (ht : P.underlying t = some (.slice e)) (hx : ev l x = some (.slice a m c)) : Runs P l (.call { callee := .builtin .len, args := #[x], argTypes := cs }) w (.int .i64 m) w := fun r _ _ _ _ _ he => by
  simp [execOp, resolve, invoke, builtin, Builtin.len_, he x _ hx, hc, run_underlying ht, goInt]

theorem R.nilCheck {a : Addr} (hx : ev l x = some (.pointer (some a))) : Runs P l (.nilCheck x) w (.pointer (some a)) w := fun r _ _ _ _ _ he => by
  simp only [execOp, he x _ hx]; rfl

theorem Addr.add_none (b o k : Nat) : (⟨b, o, none⟩ : Addr).add k = ⟨b, o + k, none⟩ := by unfold Addr.add; split <;> simp_all

theorem R.fieldAddr {fs : Array Field} {f off o b : Nat} {fd : Field} {i : TypeInfo} (ht : P.underlying t = some (.struct fs)) (hf : fs[f]? = some fd) (ho : fd.offset = off) (hi : P.info? fd.type = some i) (hz : i.size ≠ 0) (hx : ev l x = some (.pointer (some ⟨b, o, none⟩))) :
    Runs P l (.fieldAddr t x f) w (.pointer (some ⟨b, o + off, none⟩)) w := fun r _ _ _ _ _ he => by
  subst ho
  simp [execOp, he x _ hx, Instr.fieldAt, run_underlying ht, hf, Instr.sureAddr, fieldPlace, sizeOf, typeInfo, hi, hz, Addr.add_none]

/-- A cell of a block. -/
theorem cell_at {w : World} {b o : Nat} {cs : Array Value} {e : TypeId} {fr : Nat × Nat} (hb : w.heap[b]? = some (.cells cs e fr)) (hv : cs[o]? = some v) : w.cell? ⟨b, o, none⟩ = some v := by
  simp [World.cell?, hb, hv]

theorem R.load {d : TypeDesc} {b o : Nat} (ht : P.underlying t = some d) (hd : isAggD d = false) (hx : ev l x = some (.pointer (some ⟨b, o, none⟩))) (hc : w.cell? ⟨b, o, none⟩ = some v) :
    Runs P l (.load t x) w v w := fun r _ _ _ _ _ he => by
  have hag : (isAgg t).run P w = .ok false w := by
    simp only [isAgg, Sem.run_bind, run_underlying ht, Result.andThen_ok]
    cases d <;> first | rfl | cases hd
  simp [execOp, he x _ hx, Instr.loadAt, Instr.sureAddr, loadVar, hag, hc]

theorem R.loadAgg {d : TypeDesc} {b o : Nat} {cs : List Value} {i : TypeInfo} (ht : P.underlying t = some d) (hd : isAggD d = true) (hi : P.info? t = some i) (hn : i.size = cs.length)
    (hx : ev l x = some (.pointer (some ⟨b, o, none⟩))) (hc : ∀ j u, cs[j]? = some u → w.cell? ⟨b, o + j, none⟩ = some u) :
    Runs P l (.load t x) w (.agg cs.toArray) w := fun r _ _ _ _ _ he => by
  have hag : (isAgg t).run P w = .ok true w := by
    simp only [isAgg, Sem.run_bind, run_underlying ht, Result.andThen_ok]
    cases d <;> first | rfl | cases hd
  have hl := run_loadCells_list (P := P) w ⟨b, o, none⟩ cs (fun j u hj => by rw [Addr.add_none]; exact hc j u hj)
  simp [execOp, he x _ hx, Instr.loadAt, Instr.sureAddr, loadVar, hag, sizeOf, typeInfo, hi, hn, hl]

/-- A store of one cell. -/
theorem R.store {b o : Nat} {cs : Array Value} {fr : Nat × Nat} {i : TypeInfo} (hi : P.info? t = some i) (hn : i.size = 1) (hx : ev l x = some (.pointer (some ⟨b, o, none⟩))) (hy : ev l y = some v) (h1 : v.oneCell' = true) (hv : v.cells = #[v])
    (hb : w.heap[b]? = some (.cells cs e fr)) (ho : o < cs.size) (hf : (decide (fr.1 ≤ o) && decide (o < fr.2)) = false) : RunsU P l (.store t x y) w (w.setCell ⟨b, o, none⟩ v) := fun r _ _ _ _ _ he => by
  have hc : w.cell? ⟨b, o, none⟩ = some cs[o] := cell_at hb (by simp [ho])
  have hfz : w.frozen? ⟨b, o, none⟩ = false := by simp only [World.frozen?, hb]; exact hf
  simp [execOp, he x _ hx, he y _ hy, Instr.storeAt, Instr.sureAddr, storeVar, hv, sizeOf, typeInfo, hi, hn, storeCells, Addr.add_none, run_store P w _ _ _ h1, hc, hfz]

theorem setCell_at {w : World} {b o : Nat} {cs : Array Value} {e : TypeId} {fr : Nat × Nat} (hb : w.heap[b]? = some (.cells cs e fr)) (v : Value) : (w.setCell ⟨b, o, none⟩ v).heap[b]? = some (.cells (cs.setIfInBounds o v) e fr) := by
  simp [World.setCell, Array.getElem?_modify, hb]

end
end Go.Proofs.YthcpjcgjmdfpjaaDoor

namespace Go.Proofs.YthcpjcgjmdfpjaaDoor
open Go Go.RowKit

/-- One operation, what follows being asked of whatever it leaves. -/
def OP (P : Program) (Q : Exit → Act → World → Prop) (o : Oper) (n : Nat) (l : Env) (w : World) (M : Env → World → Prop) : Prop :=
  ∀ a, Fr a n l → ∀ K : Act → World → Prop, (∀ l' w', M l' w' → ∀ a', Fr a' n l' → K a' w') → o.wp P a w K Q

section
variable {P : Program} {ops : Array Oper} {Q : Exit → Act → World → Prop} {rest : List Oper} {n : Nat} {l : Env} {w w' : World} {o : Oper} {v u : Value} {M : Env → World → Prop}
variable {q : Op} {t e ty : TypeId} {pos : String} {af : Array Edge} {d : Nat} {x y z : Operand}

theorem WL.eff (hg : o.guard = none) (h : OP P Q o n l w (fun l' w' => WL P ops Q rest n l' w')) : WL P ops Q (o :: rest) n l w := by
  intro a ha
  refine wpList_plain hg fun K hK => ?_
  exact h a ha K (fun l' w' hM a' ha' => hK a' w' (hM a' ha'))

theorem OP.val (hdn : d < n) (hr : Runs P l q w v w') (h : M ((d, v) :: l) w') : OP P Q ⟨some d, q, t, pos, af, none⟩ n l w M := by
  intro a ha K hK
  unfold Oper.wp
  rw [hr a.eval t pos _ af none (fun x u hx => ha.ev hx), Oper.upon_value]
  exact hK _ _ h _ (ha.put hdn v)
theorem OP.unit (hr : RunsU P l q w w') (h : M l w') : OP P Q ⟨none, q, t, pos, af, none⟩ n l w M := by
  intro a ha K hK
  unfold Oper.wp
  rw [hr a.eval t pos _ af none (fun x u hx => ha.ev hx), Oper.upon_skip]
  exact hK _ _ h _ ha

/-- A guarded operation that turns memory, or calls. -/
theorem WL.geff {j s : Nat} {b want : Bool} (hj : (ops[j]?).bind (·.dst) = some s) (hs : Env.get l s = some (.bool b)) (hne : (b == want) = true) (h : OP P Q ⟨some d, q, t, pos, af, none⟩ n l w (fun l' w' => WL P ops Q rest n l' w')) :
    WL P ops Q (⟨some d, q, t, pos, af, some (j, want)⟩ :: rest) n l w := by
  intro a ha
  refine wpList_step fun K hK => ?_
  have hw : Region.wanted ⟨some d, q, t, pos, af, some (j, want)⟩ (yielded ops a.tmps) = true := by
    simp only [Region.wanted, yielded_of ha hj hs]
    cases b <;> cases want <;> first | rfl | cases hne
  rw [if_pos hw]
  exact h a ha K (fun l' w' hM a' ha' => hK a' w' (hM a' ha'))

/-! ### Regions that draw their order -/
def AH (P : Program) (ops : Array Oper) (Q : Exit → Act → World → Prop) (S : World → Prop) (fuel : Nat) (listed : Array Bool) (n : Nat) (l : Env) (w : World) : Prop :=
  ∀ a, Fr a n l → wpAnyH P .any ops Q S fuel listed a w

theorem CW.draw {os : List Oper} {id : Nat} (S : World → Prop) (hm : P.follows .mixedOrders = true)
    (h : AH P os.toArray Q S os.toArray.size (Array.replicate os.toArray.size false) n l w.drew) : CW P (.region id os.toArray true) Q n l w :=
  fun a ha => wp_region_held hm (h a ha)

/-- A panic's post does not look at the slots. -/
def Blind (Q : Exit → Act → World → Prop) : Prop := ∀ c (a : Act) (t : Array Value) w, Q (.panic c) { a with tmps := t } w → Q (.panic c) a w
theorem Blind.post {fn : Func} {R : Ending → World → Prop} : Blind (bodyPost P fn R) := fun _ _ _ _ h => h
theorem Blind.then {N : Act → World → Prop} (h : Blind Q) : Blind (Exit.then N Q) := h
theorem Blind.inBlock {id : Nat} (h : Blind Q) : Blind (Exit.inBlock id Q) := h

theorem Blind.put (hb : Blind Q) (dst : Option Tmp) (v : Value) : ∀ c a w, Q (.panic c) (a.put dst v) w → Q (.panic c) a w := by
  intro c a w h
  cases dst with
  | none => exact h
  | some d => exact hb c a _ w h

theorem AH.take (i : Nat) {S : World → Prop} {fuel : Nat} {listed : Array Bool} (hi : ops[i]? = some ⟨some d, q, t, pos, af, none⟩) (hs : Region.noSelect ops = true) (hf : Region.free .any ops listed i = true)
    (hr : (Region.ready .any ops listed).contains i = true) (hb : Blind Q) (hS : S w) (hdn : d < n) (hy : ∀ w, S w → Runs P l q w v w)
    (h : AH P ops Q S fuel (listed.setIfInBounds i true) n ((d, v) :: l) w) : AH P ops Q S (fuel + 1) listed n l w := fun a ha =>
  wpAnyH_take hi hs hf hr (hb.put _ _) (.inl ⟨by simp [Region.wanted], fun w' hw' => hy w' hw' a.eval t pos _ af none (fun x u hx => ha.ev hx)⟩) hS (h _ (ha.put hdn v))

theorem AH.takeG (i : Nat) {S : World → Prop} {fuel : Nat} {listed : Array Bool} {j s : Nat} {b want : Bool} (hi : ops[i]? = some ⟨some d, q, t, pos, af, some (j, want)⟩) (hs : Region.noSelect ops = true) (hf : Region.free .any ops listed i = true)
    (hr : (Region.ready .any ops listed).contains i = true) (hb : Blind Q) (hS : S w) (hdn : d < n) (hj : (ops[j]?).bind (·.dst) = some s) (hsv : Env.get l s = some (.bool b)) (hne : (b == want) = true) (hy : ∀ w, S w → Runs P l q w v w)
    (h : AH P ops Q S fuel (listed.setIfInBounds i true) n ((d, v) :: l) w) : AH P ops Q S (fuel + 1) listed n l w := fun a ha =>
  wpAnyH_take hi hs hf hr (hb.put _ _) (.inl ⟨by
    simp only [Region.wanted, yielded_of ha hj hsv]
    exact (by cases b <;> cases want <;> first | rfl | cases hne), fun w' hw' => hy w' hw' a.eval t pos _ af _ (fun x u hx => ha.ev hx)⟩) hS (h _ (ha.put hdn v))
theorem AH.pass (i : Nat) {S : World → Prop} {fuel : Nat} {listed : Array Bool} {j s : Nat} {b want : Bool} (hi : ops[i]? = some ⟨some d, q, t, pos, af, some (j, want)⟩) (hs : Region.noSelect ops = true) (hf : Region.free .any ops listed i = true)
    (hr : (Region.ready .any ops listed).contains i = true) (hb : Blind Q) (hS : S w) (hdn : d < n) (hj : (ops[j]?).bind (·.dst) = some s) (hsv : Env.get l s = some (.bool b)) (hne : (b == want) = false)
    (h : AH P ops Q S fuel (listed.setIfInBounds i true) n ((d, undef) :: l) w) : AH P ops Q S (fuel + 1) listed n l w := fun a ha =>
  wpAnyH_take hi hs hf hr (hb.put _ _) (.inr ⟨by
    simp only [Region.wanted, yielded_of ha hj hsv]
    exact (by cases b <;> cases want <;> first | rfl | cases hne), rfl⟩) hS (h _ (ha.put hdn undef))

theorem AH.passU (i : Nat) {S : World → Prop} {fuel : Nat} {listed : Array Bool} {j s : Nat} {want : Bool} (hi : ops[i]? = some ⟨some d, q, t, pos, af, some (j, want)⟩) (hs : Region.noSelect ops = true) (hf : Region.free .any ops listed i = true)
    (hr : (Region.ready .any ops listed).contains i = true) (hb : Blind Q) (hS : S w) (hdn : d < n) (hj : (ops[j]?).bind (·.dst) = some s) (hsv : Env.get l s = some undef)
    (h : AH P ops Q S fuel (listed.setIfInBounds i true) n ((d, undef) :: l) w) : AH P ops Q S (fuel + 1) listed n l w := fun a ha =>
  wpAnyH_take hi hs hf hr (hb.put _ _) (.inr ⟨by
    have : yielded ops a.tmps j = none := by
      unfold yielded
      rw [hj]
      simp [ha.has s _ hsv, undef]
    simp only [Region.wanted, this]
    rfl, rfl⟩) hS (h _ (ha.put hdn undef))

theorem AH.eff (i : Nat) {S : World → Prop} {fuel : Nat} {listed : Array Bool} (hr : Region.ready .any ops listed = [i]) (hi : ops[i]? = some o) (hg : o.guard = none)
    (h : OP P Q o n l w (fun l' w' => S w' ∧ AH P ops Q S fuel (listed.setIfInBounds i true) n l' w')) : AH P ops Q S (fuel + 1) listed n l w := by
  intro a ha
  refine wpAnyH_all hr (by simp) ?_
  intro i' hi'
  obtain rfl := List.mem_singleton.1 hi'
  unfold wpOp
  simp only [hi, Region.wanted, hg, if_true]
  exact .inl (h a ha _ (fun l' w' hM a' ha' => ⟨hM.1, hM.2 a' ha'⟩))

theorem AH.done {S : World → Prop} {fuel : Nat} {listed : Array Bool} (hr : Region.ready .any ops listed = []) (h : EW Q .normal n l w) : AH P ops Q S fuel listed n l w :=
  fun a ha => wpAnyH_done hr (h a ha) fuel

/-! ### Calls -/
def evs (l : Env) : List Operand → Option (List Value)
  | [] => some []
  | x :: r => match ev l x, evs l r with
    | some v, some vs => some (v :: vs)
    | _, _ => none
theorem evs_map {a : Act} (ha : Fr a n l) : ∀ (xs : List Operand) (vs : List Value), evs l xs = some vs → xs.map a.eval = vs
  | [], vs, h => by simpa [evs] using h
  | x :: r, vs, h => by
    unfold evs at h
    split at h
    · rename_i v ws hv hw
      obtain rfl := Option.some.inj h
      rw [List.map_cons, ha.ev hv, evs_map ha r ws hw]
    · cases h

theorem OP.call {f : FuncId} {fn : Func} {args : List Operand} {ts : Array TypeId} {vals : List Value} {R : Ending → World → Prop} (hdn : d < n) (hf : P.funcs[f]? = some fn) (hname : (fn.name == "runtime.NumGoroutine") = false) (hbody : fn.body.isNone = false)
    (hargs : evs l args = some vals) (hc : Calls P f vals.toArray w R) (h : ∀ ed w', R ed w' → ∃ v, ed = .returned v ∧ M ((d, v) :: l) w') :
    OP P Q ⟨some d, .call { callee := .value (.func f), args := args.toArray, argTypes := ts }, t, pos, af, none⟩ n l w M := by
  intro a ha K hK
  unfold Oper.wp
  have hm := evs_map ha args vals hargs
  have hrun : (execOp a.eval ⟨some d, .call { callee := .value (.func f), args := args.toArray, argTypes := ts }, t, pos, af, none⟩).run P w = .ok (.enter f vals.toArray) w := by
    have hcf : (callFunc f vals.toArray).run P w = .ok (.enter f vals.toArray) w := by
      unfold callFunc
      simp only [Sem.run_bind, run_program, Result.andThen_ok, hf, hname, hbody, Bool.false_eq_true, if_false]
      rfl
    have hmap : args.toArray.map a.eval = vals.toArray := by rw [List.map_toArray, hm]
    simp only [execOp, resolve, hmap, Act.eval, Deferred.ofValue, Sem.run_bind, Sem.run_pure, Result.andThen_ok, invoke, Array.append_empty, Array.empty_append]
    exact hcf
  rw [hrun, Oper.upon_enter]
  refine hc.mono ?_
  intro ed w' hR
  obtain ⟨v, rfl, hM⟩ := h ed w' hR
  exact hK _ _ hM _ (ha.put hdn v)

/-! ### New memory -/
theorem OP.box (hdn : d < n) (hx : ev l x = some v) (h : ∀ w', Chg (fun _ => False) w w' → w'.heap.size = w.heap.size + 1 → w'.heap[w.heap.size]? = some (.cells v.cells e (0, 0)) → M ((d, .pointer (some ⟨w.heap.size, 0, none⟩)) :: l) w') :
    OP P Q ⟨some d, .box e x, t, pos, af, none⟩ n l w M :=
  OP.val (w' := w.alloc (.cells v.cells e)) hdn (fun r _ _ _ _ _ he => by
    simp [execOp, he x _ hx, Instr.box, newVar, newRow]) (h _ (Chg.alloc _ _ _) (by simp) (heap_alloc_new _ _))
theorem OP.alloc {i : TypeInfo} {zv : Value} (hdn : d < n) (hi : P.info? e = some i) (hz : i.zero = some zv) (h : ∀ w', Chg (fun _ => False) w w' → w'.heap.size = w.heap.size + 1 → w'.heap[w.heap.size]? = some (.cells zv.cells e (0, 0)) → M ((d, .pointer (some ⟨w.heap.size, 0, none⟩)) :: l) w') :
    OP P Q ⟨some d, .alloc e, t, pos, af, none⟩ n l w M :=
  OP.val (w' := w.alloc (.cells zv.cells e)) hdn (fun r _ _ _ _ _ he => by
    simp [execOp, Instr.alloc, zeroValue, typeInfo, hi, hz, newVar, newRow]) (h _ (Chg.alloc _ _ _) (by simp) (heap_alloc_new _ _))
theorem OP.makeMap (hdn : d < n) (h : ∀ w', Chg (fun _ => False) w w' → w'.heap.size = w.heap.size + 1 → w'.heap[w.heap.size]? = some (.map #[] 0) → M ((d, .map (some w.heap.size)) :: l) w') :
    OP P Q ⟨some d, .makeMap e none, t, pos, af, none⟩ n l w M :=
  OP.val (w' := w.alloc (.map #[] 0)) hdn (fun r _ _ _ _ _ he => by
    simp [execOp, Instr.makeMap]) (h _ (Chg.alloc _ _ _) (by simp) (heap_alloc_new _ _))

/-- The values of a literal's parts. -/
def evp (l : Env) : List (Nat × Operand) → Option (List (Nat × Value))
  | [] => some []
  | (i, x) :: r => match ev l x, evp l r with
    | some v, some vs => some ((i, v) :: vs)
    | _, _ => none
theorem evp_map {r : Operand → Value} (he : ∀ x u, ev l x = some u → r x = u) : ∀ (xs : List (Nat × Operand)) (vs : List (Nat × Value)), evp l xs = some vs → xs.map (fun p => (p.1, r p.2)) = vs
  | [], vs, h => by simpa [evp] using h
  | (i, x) :: xs, vs, h => by
    unfold evp at h
    split at h
    · rename_i v ws hv hw
      obtain rfl := Option.some.inj h
      rw [List.map_cons, he _ _ hv, evp_map he xs ws hw]
    · cases h

theorem R.build {parts : List (Nat × Operand)} {vals : List (Nat × Value)} (hp : evp l parts = some vals) (h : ∀ w, (Instr.build e vals.toArray).run P w = .ok v w) : Runs P l (.build e parts.toArray) w v w := fun r _ _ _ _ _ he => by
  have hm := evp_map he parts vals hp
  have : parts.toArray.map (fun x => (x.1, r x.2)) = vals.toArray := by rw [List.map_toArray, hm]
  simp only [execOp, this, Sem.run_bind, h, Result.andThen_ok]
  rfl

theorem OP.buildSlice {parts : List (Nat × Operand)} {vals : List (Nat × Value)} {m : Nat} {cells : Array Value} (hdn : d < n) (hp : evp l parts = some vals)
    (hrun : ∀ w, (Instr.buildSlice e m vals.toArray).run P w = .ok (.slice (some ⟨w.heap.size, 0, none⟩) m m) (w.alloc (.cells cells ty)))
    (h : ∀ w', Chg (fun _ => False) w w' → w'.heap.size = w.heap.size + 1 → w'.heap[w.heap.size]? = some (.cells cells ty (0, 0)) → M ((d, .slice (some ⟨w.heap.size, 0, none⟩) m m) :: l) w') :
    OP P Q ⟨some d, .buildSlice e m parts.toArray, t, pos, af, none⟩ n l w M :=
  OP.val (w' := w.alloc (.cells cells ty)) hdn (fun r _ _ _ _ _ he => by
    have hm := evp_map he parts vals hp
    have : parts.toArray.map (fun x => (x.1, r x.2)) = vals.toArray := by rw [List.map_toArray, hm]
    simp only [execOp, this, Sem.run_bind, hrun, Result.andThen_ok]
    rfl) (h _ (Chg.alloc _ _ _) (by simp) (heap_alloc_new _ _))

/-! ### Stores -/
theorem OP.store {b o : Nat} {cs : Array Value} {fr : Nat × Nat} {i : TypeInfo} (hi : P.info? t = some i) (hn : i.size = 1) (hx : ev l x = some (.pointer (some ⟨b, o, none⟩))) (hy : ev l y = some v) (h1 : v.oneCell' = true) (hv : v.cells = #[v])
    (hb : w.heap[b]? = some (.cells cs e fr)) (ho : o < cs.size) (hf : (decide (fr.1 ≤ o) && decide (o < fr.2)) = false)
    (h : ∀ w', Chg (fun k => k = b) w w' → w'.heap.size = w.heap.size → w'.heap[b]? = some (.cells (cs.setIfInBounds o v) e fr) → M l w') :
    OP P Q ⟨none, .store t x y, ty, pos, af, none⟩ n l w M :=
  OP.unit (R.store hi hn hx hy h1 hv hb ho hf) (h _ (Chg.setCell _ _ _ rfl) (by simp [World.setCell]) (setCell_at hb v))

/-- A store of a whole struct or array over a whole block. -/
theorem OP.storeAgg {b : Nat} {old cells : Array Value} {i : TypeInfo} (hi : P.info? t = some i) (hn : i.size = cells.size) (hx : ev l x = some (.pointer (some ⟨b, 0, none⟩))) (hy : ev l y = some (.agg cells)) (h1 : cells.all (·.oneCell') = true)
    (hb : w.heap[b]? = some (.cells old e (0, 0))) (ho : old.size = cells.size)
    (h : ∀ w', Chg (fun k => k = b) w w' → w'.heap.size = w.heap.size → w'.heap[b]? = some (.cells cells e (0, 0)) → M l w') :
    OP P Q ⟨none, .store t x y, ty, pos, af, none⟩ n l w M :=
  OP.unit (fun r _ _ _ _ _ he => by
    have := run_storeVar_row (P := P) w b e t old cells hb (by simp [hi, hn]) ho h1
    simp [execOp, he x _ hx, he y _ hy, Instr.storeAt, Instr.sureAddr, this]) (h _ (Chg.setRow _ _ _ rfl) (by simp) (setRow_heap _ _ _ _ _ _ hb))

end
end Go.Proofs.YthcpjcgjmdfpjaaDoor

namespace Go.Proofs.YthcpjcgjmdfpjaaDoor
open Go Go.RowKit

theorem Buf.lt {w : World} {base : Nat} {v : Value} {bs : List UInt8} (h : Buf w base v bs) : ∀ k, v.ownBlock = some k → base ≤ k ∧ k < w.heap.size := World.ownsRow.lt h

/-- A buffer behind a step that does not touch its block. -/
theorem Buf.kept {w w' : World} {base : Nat} {v : Value} {bs : List UInt8} {S : Nat → Prop} (h : Buf w base v bs) (hc : Chg S w w') (hn : ∀ k, v.ownBlock = some k → ¬ S k) : Buf w' base v bs := by
  refine ⟨h.1, ?_⟩
  rcases h.2 with h2 | ⟨g, cap, cur, rfl, hb, hg, r⟩
  · exact .inl h2
  · exact .inr ⟨g, cap, cur, rfl, hb, hc.at hg (hn g rfl), r⟩

theorem Buf.slice {w : World} {base : Nat} {v : Value} {bs : List UInt8} (h : Buf w base v bs) : ∃ a c, v = .slice a bs.length c := by
  rcases h.2 with ⟨rfl, h0⟩ | ⟨g, cap, cur, rfl, _⟩
  · exact ⟨none, 0, by rw [h0]⟩
  · exact ⟨_, cap, rfl⟩
theorem Buf.cell {w : World} {base : Nat} {bs : List UInt8} {g m c : Nat} (h : Buf w base (.slice (some ⟨g, 0, none⟩) m c) bs) {j : Nat} {b : UInt8} (hj : bs[j]? = some b) : w.cell? ⟨g, j, none⟩ = some (u8v b) := by
  have := World.ownsRow.cells h (g := g) rfl j (u8v b) (by simp [hj])
  rwa [Addr.add_none, Nat.zero_add] at this

theorem Chg.own {S : Nat → Prop} {w w' : World} {row : Option Nat} (h : Chg S w w') (hs : ∀ k, k < w.heap.size → S k → some k = row := by intro k _ h; exact h.elim) : w.grownBy w' row :=
  ⟨h.os, h.tape, h.output, h.size, fun k hk hne => h.block k hk (fun hS => hne (hs k hk hS))⟩
theorem Chg.moved {w w' : World} {v v' : Value} (h : Moved w w' v v') : Chg (fun k => some k = v.ownBlock) w w' := Chg.grown h.g

section
variable {Q : Exit → Act → World → Prop} {n : Nat} {l : Env} {w : World} {M : Env → World → Prop} {t : TypeId} {pos : String} {af : Array Edge} {d : Nat} {x y : Operand} {base : Nat} {v : Value} {bs news : List UInt8}

theorem OP.append (news : List UInt8) {ad : Addr} {m c : Nat} (hdn : d < n) (hx : ev l x = some v) (hy : ev l y = some (.slice (some ad) m c)) (hB : Buf w base v bs) (hm : news.length = m)
    (hnews : ∀ j u, (news.map u8v)[j]? = some u → w.cell? (ad.add j) = some u) (hl : bs.length + news.length ≤ 140737488355328) (hb : base ≤ w.heap.size)
    (h : ∀ v' w', Buf w' base v' (bs ++ news) → Moved w w' v v' → M ((d, v') :: l) w') :
    OP Tryd.prog Q ⟨some d, .call { callee := .builtin .append, args := #[x, y], argTypes := #[36, 36] }, t, pos, af, none⟩ n l w M := by
  obtain ⟨i0, hi, hz0, hz1, hz2⟩ := info_parts Tryd.info5
  subst hm
  obtain ⟨v', w', hr, h2, h3, _, h5⟩ := run_append_own_at (P := Tryd.prog) w base 36 t 5 i0 (.int .u8 0) 1 1 Tryd.underlying36 hi hz0 hz1 hz2 rfl (by decide) v bs.length (bs.map u8v) hB ad news.length c (news.map u8v) (by simp) hnews (u8v_one _) (by unfold maxLen; omega) (by omega) hb
  refine OP.val (v := v') (w' := w') hdn (fun r _ _ _ _ _ he => ?_) (h v' w' ?_ ⟨h3, h5.imp id (fun e => ⟨_, e, Nat.le_refl _⟩)⟩)
  · simp only [execOp, resolve, invoke, builtin, Sem.run_bind, Sem.run_pure, Result.andThen_ok, List.map_toArray, List.map_cons, List.map_nil, he x _ hx, he y _ hy]
    have e1 : ∀ ty, (Builtin.append_ #[36, 36] ty #[v, .slice (some ad) news.length c]).run Tryd.prog w = (Builtin.append_ #[36, 36] t #[v, .slice (some ad) news.length c]).run Tryd.prog w := fun _ => rfl
    rw [e1, hr]; rfl
  · unfold Buf; rw [List.length_append, List.map_append]; exact h2

/-- Appending one byte that was laid in a block of its own. -/
theorem cells_one {w : World} {b : Nat} {c : UInt8} (hb : w.heap[b]? = some (.cells #[u8v c] 5 (0, 0))) : ∀ j u, ([c].map u8v)[j]? = some u → w.cell? ((⟨b, 0, none⟩ : Addr).add j) = some u := by
  intro j u hj
  rw [Addr.add_none, Nat.zero_add]
  refine cell_at hb ?_
  match j, hj with
  | 0, hj => simpa using hj

theorem cells_list {w : World} {b o : Nat} {cs : Array Value} {e : TypeId} {fr : Nat × Nat} {l : List UInt8} (hb : w.heap[b]? = some (.cells cs e fr)) (h : ∀ j u, (l.map u8v)[j]? = some u → cs[o + j]? = some u) : ∀ j u, (l.map u8v)[j]? = some u → w.cell? ((⟨b, o, none⟩ : Addr).add j) = some u := by
  intro j u hj
  rw [Addr.add_none]
  exact cell_at hb (h j u hj)

theorem OP.appendByte {b : UInt8} {g c : Nat} (hdn : d < n) (hx : ev l x = some v) (hy : ev l y = some (.slice (some ⟨g, 0, none⟩) 1 c)) (hB : Buf w base v bs) (hg : w.heap[g]? = some (.cells #[u8v b] 5 (0, 0)))
    (hl : bs.length + 1 ≤ 140737488355328) (hb : base ≤ w.heap.size)
    (h : ∀ v' w', Buf w' base v' (bs ++ [b]) → Moved w w' v v' → M ((d, v') :: l) w') :
    OP Tryd.prog Q ⟨some d, .call { callee := .builtin .append, args := #[x, y], argTypes := #[36, 36] }, t, pos, af, none⟩ n l w M :=
  OP.append [b] hdn hx hy hB rfl (cells_one hg) hl hb h

/-- Appending a string's bytes. -/
theorem run_append_str {w : World} {s : List UInt8} {ty : TypeId} (hB : Buf w base v bs) (hl : bs.length + s.length ≤ 140737488355328) (hb : base ≤ w.heap.size) :
    ∃ v' w', (Builtin.append_ #[36, 9] ty #[v, .string ⟨s.toArray⟩]).run Tryd.prog w = .ok v' w' ∧ Buf w' base v' (bs ++ s) ∧ Moved w w' v v' := by
  obtain ⟨i0, hi, hz0, hz1, hz2⟩ := info_parts Tryd.info5
  have hsz : (⟨s.toArray⟩ : ByteArray).size = s.length := by simp [ByteArray.size]
  have hsc : Lib.strCells ⟨s.toArray⟩ = s.map u8v := by simp [Lib.strCells, u8v]
  have hxl : (bs.map u8v).length = bs.length := by simp
  have grown : ∀ (old : Nat), old < bs.length + s.length →
      Buf (w.drew.alloc (.cells ((bs.map u8v).toArray ++ (s.map u8v).toArray ++ Builtin.zeroCells (Value.int .u8 0).cells (grownCap w (bs.length + s.length) old 5 - (bs.length + s.length))) 5)) base
        (.slice (some ⟨w.heap.size, 0, none⟩) (bs.length + s.length) (grownCap w (bs.length + s.length) old 5)) (bs ++ s) := by
    intro old ho
    have hge := grownCap_ge w (bs.length + s.length) old 5
    have hcm : grownCap w (bs.length + s.length) old 5 ≤ maxLen := grownCap_le_maxLen w (bs.length + s.length) old 5 (by unfold maxLen; omega)
    refine ⟨by simp, .inr ⟨w.heap.size, _, _, by rw [List.length_append], hb, heap_alloc_new w.drew _, by rw [List.length_append]; exact hge, hcm, ?_, ?_⟩⟩
    · have hz1' : (Value.int IntKind.u8 0).cells.size = 1 := rfl
      simp only [Array.size_append, List.size_toArray, size_zeroCells, hz1', List.length_map]
      omega
    · simp only [Array.toList_append, List.map_append]
      exact List.take_left' (by simp)
  have moved : ∀ (o : Obj) (v' : Value), v'.ownBlock = some w.heap.size → Moved w (w.drew.alloc o) v v' := fun o v' hv' =>
    ⟨⟨rfl, rfl, rfl, by simp, fun k hk _ => Below.heap_alloc w.drew o k hk⟩, .inr ⟨_, hv', Nat.le_refl _⟩⟩
  rcases hB.2 with ⟨rfl, h0⟩ | ⟨g, cap, cur, rfl, hbg, hg, hnc, hcm, hcs, htake⟩
  · have hbs : bs = [] := List.eq_nil_of_length_eq_zero h0
    subst hbs
    by_cases hm : s = []
    · subst hm
      refine ⟨.slice none 0 0, w, ?_, by simpa using hB, Moved.refl _ _⟩
      have hf := Lib.run_firstCells_string (P := Tryd.prog) w 1 ⟨#[]⟩
      have hf' : (Builtin.firstCells 1 0 (.string ⟨#[]⟩)).run Tryd.prog w = .ok #[] w := hf
      simp [Builtin.append_, run_underlying Tryd.underlying36, run_underlying Tryd.underlying9, sizeOf, typeInfo, hi, hz1, Builtin.lenOf, hf', ByteArray.size]
    · have hpos : 0 < s.length := List.length_pos_iff.2 hm
      have hr := run_append_nil_string (P := Tryd.prog) w 36 9 ty 5 i0 (.int .u8 0) Tryd.underlying36 Tryd.underlying9 hi hz0 ⟨s.toArray⟩ (by rw [hsz]; exact hpos) (by rw [hsz]; simp at hl; omega) (by rw [hz2, hsz]; simp at hl; omega)
      have e1 : ((⟨s.toArray⟩ : ByteArray).data.map fun b => Value.int .u8 b.toNat) = (s.map u8v).toArray := by
        apply Array.ext'; simp [u8v]
      rw [e1, hsz] at hr
      have hgr := grown 0 (by simp; omega)
      simp only [List.map_nil, List.length_nil, Nat.zero_add, List.nil_append, Array.empty_append] at hgr
      exact ⟨_, _, hr, by simpa using hgr, moved _ _ rfl⟩
  · by_cases hroom : bs.length + s.length ≤ cap
    · have hcs' : cur.size = cap := by simpa using hcs
      have hr := Lib.run_append_room_string (P := Tryd.prog) w 36 9 ty 5 i0 Tryd.underlying36 Tryd.underlying9 hi hz1 g bs.length cap cur hg ⟨s.toArray⟩ (by rw [hsz]; exact hroom) (by rw [hsz]; omega)
      rw [hsc, hsz] at hr
      refine ⟨_, _, hr, ⟨by simp, .inr ⟨g, cap, _, by rw [List.length_append], hbg, setRow_heap w g cur _ 5 _ hg, by rw [List.length_append]; exact hroom, hcm, ?_, ?_⟩⟩, ⟨⟨rfl, rfl, rfl, by simp, fun k _ hk => setRow_other w g k _ (fun e => hk (by simp [Value.ownBlock, e]))⟩, .inl rfl⟩⟩
      · simp only [List.size_toArray, List.length_append, List.length_take, List.length_drop, Array.length_toList, List.length_map]
        omega
      · have ht' : cur.toList.take bs.length = bs.map u8v := by simpa using htake
        rw [ht', List.map_append]
        exact List.take_left' (by simp)
    · have holds : ∀ j u, (bs.map u8v)[j]? = some u → w.cell? ((⟨g, 0, none⟩ : Addr).add j) = some u := World.ownsRow.cells hB (g := g) rfl
      have hr := Lib.run_append_grow_string (P := Tryd.prog) w 36 9 ty 5 i0 (.int .u8 0) Tryd.underlying36 Tryd.underlying9 hi hz0 ⟨g, 0, none⟩ bs.length cap (bs.map u8v) (by rw [hz1]; simp) holds ⟨s.toArray⟩ (by rw [hsz]; omega) (by rw [hsz]; omega) (by rw [hz2, hsz]; exact growslice_fits (by omega) (by omega))
      rw [hsc, hsz] at hr
      exact ⟨_, _, hr, grown cap (by omega), moved _ _ rfl⟩

theorem OP.appendStr {s : List UInt8} (hdn : d < n) (hx : ev l x = some v) (hy : ev l y = some (sv s)) (hB : Buf w base v bs) (hl : bs.length + s.length ≤ 140737488355328) (hb : base ≤ w.heap.size)
    (h : ∀ v' w', Buf w' base v' (bs ++ s) → Moved w w' v v' → M ((d, v') :: l) w') :
    OP Tryd.prog Q ⟨some d, .call { callee := .builtin .append, args := #[x, y], argTypes := #[36, 9] }, t, pos, af, none⟩ n l w M := by
  obtain ⟨v', w', hr, h2, h3⟩ := run_append_str (ty := t) (s := s) hB hl hb
  refine OP.val (v := v') (w' := w') hdn (fun r ty _ _ _ _ he => ?_) (h v' w' h2 h3)
  unfold sv at hy
  simp only [execOp, resolve, invoke, builtin, Sem.run_bind, Sem.run_pure, Result.andThen_ok, List.map_toArray, List.map_cons, List.map_nil, he x _ hx, he y _ hy]
  have e1 : (Builtin.append_ #[36, 9] ty #[v, .string ⟨s.toArray⟩]).run Tryd.prog w = (Builtin.append_ #[36, 9] t #[v, .string ⟨s.toArray⟩]).run Tryd.prog w := rfl
  rw [e1, hr]; rfl

/-! ### Slices and indexes -/
variable {e : TypeId} {P : Program}
theorem R.indexAddr {b o m c i : Nat} {k : IntKind} {sz : Nat} {inf : TypeInfo} {j : Int} (ht : P.underlying t = some (.slice e)) (hi : P.info? e = some inf) (hs : inf.size = sz) (hx : ev l x = some (.slice (some ⟨b, o, none⟩) m c)) (hy : ev l y = some (.int k j)) (hj : j = (i : Int)) (hlt : i < m) :
    Runs P l (.indexAddr t x y) w (.pointer (some ⟨b, o + i * sz, none⟩)) w := fun r _ _ _ _ _ he => by
  subst hj
  simp only [execOp, he x _ hx, he y _ hy, Instr.indexAt, asIntOf, Sem.run_bind, Sem.run_pure, Result.andThen_ok, run_underlying ht]
  have h1 : (0 : Int) ≤ (i : Int) ∧ (i : Int) < (m : Int) := by omega
  simp [h1, sizeOf, typeInfo, hi, hs, Addr.add_none]

end
end Go.Proofs.YthcpjcgjmdfpjaaDoor

namespace Go.Proofs.YthcpjcgjmdfpjaaDoor
open Go Go.RowKit
set_option maxRecDepth 100000
section
variable {l : Env} {w : World} {x y : Operand} {v : Value} {b o : Nat}

theorem sz3 : (Tryd.prog.info? 3).map (·.size) = some 1 := by kernel_rfl
theorem sz4 : (Tryd.prog.info? 4).map (·.size) = some 1 := by kernel_rfl
theorem sz5 : (Tryd.prog.info? 5).map (·.size) = some 1 := by kernel_rfl
theorem sz9 : (Tryd.prog.info? 9).map (·.size) = some 1 := by kernel_rfl
theorem sz36 : (Tryd.prog.info? 36).map (·.size) = some 1 := by kernel_rfl
theorem sz91 : (Tryd.prog.info? 91).map (·.size) = some 1 := by kernel_rfl
theorem sz27 : (Tryd.prog.info? 27).map (·.size) = some 16 := by kernel_rfl
theorem sz26 : (Tryd.prog.info? 26).map (·.size) = some 16 := by kernel_rfl
theorem sz25 : (Tryd.prog.info? 25).map (·.size) = some 2 := by kernel_rfl
theorem sz31 : (Tryd.prog.info? 31).map (·.size) = some 1 := by kernel_rfl
theorem sz57 : (Tryd.prog.info? 57).map (·.size) = some 21 := by kernel_rfl
theorem sz33 : (Tryd.prog.info? 33).map (·.size) = some 9 := by kernel_rfl
theorem sz93 : (Tryd.prog.info? 93).map (·.size) = some 2 := by kernel_rfl
theorem sz100 : (Tryd.prog.info? 100).map (·.size) = some 3 := by kernel_rfl
theorem sz50 : (Tryd.prog.info? 50).map (·.size) = some 20 := by kernel_rfl
theorem sz29 : (Tryd.prog.info? 29).map (·.size) = some 25 := by kernel_rfl
theorem sz60 : (Tryd.prog.info? 60).map (·.size) = some 20 := by kernel_rfl
theorem sz70 : (Tryd.prog.info? 70).map (·.size) = some 18 := by kernel_rfl
theorem sz108 : (Tryd.prog.info? 108).map (·.size) = some 12 := by kernel_rfl
theorem sz102 : (Tryd.prog.info? 102).map (·.size) = some 4 := by kernel_rfl
theorem sz80 : (Tryd.prog.info? 80).map (·.size) = some 1 := by kernel_rfl
theorem sz44 : (Tryd.prog.info? 44).map (·.size) = some 1 := by kernel_rfl
theorem sz22 : (Tryd.prog.info? 22).map (·.size) = some 7 := by kernel_rfl
theorem sz64 : (Tryd.prog.info? 64).map (·.size) = some 3 := by kernel_rfl
theorem sz74 : (Tryd.prog.info? 74).map (·.size) = some 32 := by kernel_rfl
theorem sz63 : (Tryd.prog.info? 63).map (·.size) = some 1 := by kernel_rfl
theorem sz48 : (Tryd.prog.info? 48).map (·.size) = some 1 := by kernel_rfl
theorem sz65 : (Tryd.prog.info? 65).map (·.size) = some 1 := by kernel_rfl
theorem sz86 : (Tryd.prog.info? 86).map (·.size) = some 5 := by kernel_rfl
theorem sz87 : (Tryd.prog.info? 87).map (·.size) = some 5 := by kernel_rfl
theorem sz89 : (Tryd.prog.info? 89).map (·.size) = some 3 := by kernel_rfl
theorem sz94 : (Tryd.prog.info? 94).map (·.size) = some 6 := by kernel_rfl
theorem sz106 : (Tryd.prog.info? 106).map (·.size) = some 2 := by kernel_rfl
theorem sz49 : (Tryd.prog.info? 49).map (·.size) = some 20 := by kernel_rfl
theorem sz99 : (Tryd.prog.info? 99).map (·.size) = some 3 := by kernel_rfl

theorem inf_of {t s : Nat} (h : (Tryd.prog.info? t).map (·.size) = some s) : ∃ i, Tryd.prog.info? t = some i ∧ i.size = s := by
  obtain ⟨i, hi, hs⟩ := Option.map_eq_some_iff.1 h
  exact ⟨i, hi, hs⟩
theorem FA {t f off s : Nat} {fs : Array Field} {fd : Field} (ht : Tryd.prog.underlying t = some (.struct fs)) (hf : fs[f]? = some fd) (ho : fd.offset = off) (hs : (Tryd.prog.info? fd.type).map (·.size) = some (s + 1)) (hx : ev l x = some (.pointer (some ⟨b, o, none⟩))) :
    Runs Tryd.prog l (.fieldAddr t x f) w (.pointer (some ⟨b, o + off, none⟩)) w := by
  obtain ⟨i, hi, hz⟩ := inf_of hs
  exact R.fieldAddr ht hf ho hi (by omega) hx

theorem FA93_0 (hx : ev l x = some (.pointer (some ⟨b, o, none⟩))) : Runs Tryd.prog l (.fieldAddr 93 x 0) w (.pointer (some ⟨b, o + 0, none⟩)) w := FA Tryd.underlying93 rfl rfl sz36 hx
theorem FA93_1 (hx : ev l x = some (.pointer (some ⟨b, o, none⟩))) : Runs Tryd.prog l (.fieldAddr 93 x 1) w (.pointer (some ⟨b, o + 1, none⟩)) w := FA Tryd.underlying93 rfl rfl sz91 hx
theorem FA100_0 (hx : ev l x = some (.pointer (some ⟨b, o, none⟩))) : Runs Tryd.prog l (.fieldAddr 100 x 0) w (.pointer (some ⟨b, o + 0, none⟩)) w := FA Tryd.underlying100 rfl rfl sz36 hx
theorem FA100_1 (hx : ev l x = some (.pointer (some ⟨b, o, none⟩))) : Runs Tryd.prog l (.fieldAddr 100 x 1) w (.pointer (some ⟨b, o + 1, none⟩)) w := FA Tryd.underlying100 rfl rfl sz3 hx
theorem FA100_2 (hx : ev l x = some (.pointer (some ⟨b, o, none⟩))) : Runs Tryd.prog l (.fieldAddr 100 x 2) w (.pointer (some ⟨b, o + 2, none⟩)) w := FA Tryd.underlying100 rfl rfl sz4 hx
theorem FA57_0 (hx : ev l x = some (.pointer (some ⟨b, o, none⟩))) : Runs Tryd.prog l (.fieldAddr 57 x 0) w (.pointer (some ⟨b, o + 0, none⟩)) w := FA Tryd.underlying57 rfl rfl sz9 hx
theorem FA57_1 (hx : ev l x = some (.pointer (some ⟨b, o, none⟩))) : Runs Tryd.prog l (.fieldAddr 57 x 1) w (.pointer (some ⟨b, o + 1, none⟩)) w := FA Tryd.underlying57 rfl rfl sz3 hx
theorem FA57_2 (hx : ev l x = some (.pointer (some ⟨b, o, none⟩))) : Runs Tryd.prog l (.fieldAddr 57 x 2) w (.pointer (some ⟨b, o + 2, none⟩)) w := FA Tryd.underlying57 rfl rfl sz3 hx
theorem FA57_3 (hx : ev l x = some (.pointer (some ⟨b, o, none⟩))) : Runs Tryd.prog l (.fieldAddr 57 x 3) w (.pointer (some ⟨b, o + 3, none⟩)) w := FA Tryd.underlying57 rfl rfl sz27 hx
theorem FA57_4 (hx : ev l x = some (.pointer (some ⟨b, o, none⟩))) : Runs Tryd.prog l (.fieldAddr 57 x 4) w (.pointer (some ⟨b, o + 19, none⟩)) w := FA Tryd.underlying57 rfl rfl sz9 hx
theorem FA57_5 (hx : ev l x = some (.pointer (some ⟨b, o, none⟩))) : Runs Tryd.prog l (.fieldAddr 57 x 5) w (.pointer (some ⟨b, o + 20, none⟩)) w := FA Tryd.underlying57 rfl rfl sz9 hx
theorem FA33_0 (hx : ev l x = some (.pointer (some ⟨b, o, none⟩))) : Runs Tryd.prog l (.fieldAddr 33 x 0) w (.pointer (some ⟨b, o + 0, none⟩)) w := FA Tryd.underlying33 rfl rfl sz3 hx
theorem FA33_1 (hx : ev l x = some (.pointer (some ⟨b, o, none⟩))) : Runs Tryd.prog l (.fieldAddr 33 x 1) w (.pointer (some ⟨b, o + 1, none⟩)) w := FA Tryd.underlying33 rfl rfl sz4 hx
theorem FA33_2 (hx : ev l x = some (.pointer (some ⟨b, o, none⟩))) : Runs Tryd.prog l (.fieldAddr 33 x 2) w (.pointer (some ⟨b, o + 2, none⟩)) w := FA Tryd.underlying33 rfl rfl sz4 hx
theorem FA33_3 (hx : ev l x = some (.pointer (some ⟨b, o, none⟩))) : Runs Tryd.prog l (.fieldAddr 33 x 3) w (.pointer (some ⟨b, o + 3, none⟩)) w := FA Tryd.underlying33 rfl rfl sz4 hx
theorem FA33_4 (hx : ev l x = some (.pointer (some ⟨b, o, none⟩))) : Runs Tryd.prog l (.fieldAddr 33 x 4) w (.pointer (some ⟨b, o + 4, none⟩)) w := FA Tryd.underlying33 rfl rfl sz3 hx
theorem FA33_5 (hx : ev l x = some (.pointer (some ⟨b, o, none⟩))) : Runs Tryd.prog l (.fieldAddr 33 x 5) w (.pointer (some ⟨b, o + 5, none⟩)) w := FA Tryd.underlying33 rfl rfl sz25 hx
theorem FA33_6 (hx : ev l x = some (.pointer (some ⟨b, o, none⟩))) : Runs Tryd.prog l (.fieldAddr 33 x 6) w (.pointer (some ⟨b, o + 7, none⟩)) w := FA Tryd.underlying33 rfl rfl sz31 hx
theorem FA33_7 (hx : ev l x = some (.pointer (some ⟨b, o, none⟩))) : Runs Tryd.prog l (.fieldAddr 33 x 7) w (.pointer (some ⟨b, o + 8, none⟩)) w := FA Tryd.underlying33 rfl rfl sz31 hx
theorem FA25_0 (hx : ev l x = some (.pointer (some ⟨b, o, none⟩))) : Runs Tryd.prog l (.fieldAddr 25 x 0) w (.pointer (some ⟨b, o + 0, none⟩)) w := FA Tryd.underlying25 rfl rfl sz9 hx
theorem FA25_1 (hx : ev l x = some (.pointer (some ⟨b, o, none⟩))) : Runs Tryd.prog l (.fieldAddr 25 x 1) w (.pointer (some ⟨b, o + 1, none⟩)) w := FA Tryd.underlying25 rfl rfl sz3 hx
theorem FA50_0 (hx : ev l x = some (.pointer (some ⟨b, o, none⟩))) : Runs Tryd.prog l (.fieldAddr 50 x 0) w (.pointer (some ⟨b, o + 0, none⟩)) w := FA Tryd.underlying50 rfl rfl sz3 hx
theorem FA50_1 (hx : ev l x = some (.pointer (some ⟨b, o, none⟩))) : Runs Tryd.prog l (.fieldAddr 50 x 1) w (.pointer (some ⟨b, o + 1, none⟩)) w := FA Tryd.underlying50 rfl rfl sz3 hx
theorem FA50_2 (hx : ev l x = some (.pointer (some ⟨b, o, none⟩))) : Runs Tryd.prog l (.fieldAddr 50 x 2) w (.pointer (some ⟨b, o + 2, none⟩)) w := FA Tryd.underlying50 rfl rfl sz3 hx
theorem FA50_3 (hx : ev l x = some (.pointer (some ⟨b, o, none⟩))) : Runs Tryd.prog l (.fieldAddr 50 x 3) w (.pointer (some ⟨b, o + 3, none⟩)) w := FA Tryd.underlying50 rfl rfl sz27 hx
theorem FA50_4 (hx : ev l x = some (.pointer (some ⟨b, o, none⟩))) : Runs Tryd.prog l (.fieldAddr 50 x 4) w (.pointer (some ⟨b, o + 19, none⟩)) w := FA Tryd.underlying50 rfl rfl sz9 hx
theorem FA29_0 (hx : ev l x = some (.pointer (some ⟨b, o, none⟩))) : Runs Tryd.prog l (.fieldAddr 29 x 0) w (.pointer (some ⟨b, o + 0, none⟩)) w := FA Tryd.underlying29 rfl rfl sz25 hx
theorem FA29_1 (hx : ev l x = some (.pointer (some ⟨b, o, none⟩))) : Runs Tryd.prog l (.fieldAddr 29 x 1) w (.pointer (some ⟨b, o + 2, none⟩)) w := FA Tryd.underlying29 rfl rfl sz3 hx
theorem FA29_2 (hx : ev l x = some (.pointer (some ⟨b, o, none⟩))) : Runs Tryd.prog l (.fieldAddr 29 x 2) w (.pointer (some ⟨b, o + 3, none⟩)) w := FA Tryd.underlying29 rfl rfl sz3 hx
theorem FA29_3 (hx : ev l x = some (.pointer (some ⟨b, o, none⟩))) : Runs Tryd.prog l (.fieldAddr 29 x 3) w (.pointer (some ⟨b, o + 4, none⟩)) w := FA Tryd.underlying29 rfl rfl sz27 hx
theorem FA29_4 (hx : ev l x = some (.pointer (some ⟨b, o, none⟩))) : Runs Tryd.prog l (.fieldAddr 29 x 4) w (.pointer (some ⟨b, o + 20, none⟩)) w := FA Tryd.underlying29 rfl rfl sz3 hx
theorem FA29_5 (hx : ev l x = some (.pointer (some ⟨b, o, none⟩))) : Runs Tryd.prog l (.fieldAddr 29 x 5) w (.pointer (some ⟨b, o + 21, none⟩)) w := FA Tryd.underlying29 rfl rfl sz3 hx
theorem FA29_6 (hx : ev l x = some (.pointer (some ⟨b, o, none⟩))) : Runs Tryd.prog l (.fieldAddr 29 x 6) w (.pointer (some ⟨b, o + 22, none⟩)) w := FA Tryd.underlying29 rfl rfl sz4 hx
theorem FA29_7 (hx : ev l x = some (.pointer (some ⟨b, o, none⟩))) : Runs Tryd.prog l (.fieldAddr 29 x 7) w (.pointer (some ⟨b, o + 23, none⟩)) w := FA Tryd.underlying29 rfl rfl sz4 hx
theorem FA29_8 (hx : ev l x = some (.pointer (some ⟨b, o, none⟩))) : Runs Tryd.prog l (.fieldAddr 29 x 8) w (.pointer (some ⟨b, o + 24, none⟩)) w := FA Tryd.underlying29 rfl rfl sz3 hx
theorem FA60_0 (hx : ev l x = some (.pointer (some ⟨b, o, none⟩))) : Runs Tryd.prog l (.fieldAddr 60 x 0) w (.pointer (some ⟨b, o + 0, none⟩)) w := FA Tryd.underlying60 rfl rfl sz3 hx
theorem FA60_1 (hx : ev l x = some (.pointer (some ⟨b, o, none⟩))) : Runs Tryd.prog l (.fieldAddr 60 x 1) w (.pointer (some ⟨b, o + 1, none⟩)) w := FA Tryd.underlying60 rfl rfl sz27 hx
theorem FA60_2 (hx : ev l x = some (.pointer (some ⟨b, o, none⟩))) : Runs Tryd.prog l (.fieldAddr 60 x 2) w (.pointer (some ⟨b, o + 17, none⟩)) w := FA Tryd.underlying60 rfl rfl sz3 hx
theorem FA60_3 (hx : ev l x = some (.pointer (some ⟨b, o, none⟩))) : Runs Tryd.prog l (.fieldAddr 60 x 3) w (.pointer (some ⟨b, o + 18, none⟩)) w := FA Tryd.underlying60 rfl rfl sz4 hx
theorem FA60_4 (hx : ev l x = some (.pointer (some ⟨b, o, none⟩))) : Runs Tryd.prog l (.fieldAddr 60 x 4) w (.pointer (some ⟨b, o + 19, none⟩)) w := FA Tryd.underlying60 rfl rfl sz36 hx
theorem FA70_0 (hx : ev l x = some (.pointer (some ⟨b, o, none⟩))) : Runs Tryd.prog l (.fieldAddr 70 x 0) w (.pointer (some ⟨b, o + 0, none⟩)) w := FA Tryd.underlying70 rfl rfl sz27 hx
theorem FA70_1 (hx : ev l x = some (.pointer (some ⟨b, o, none⟩))) : Runs Tryd.prog l (.fieldAddr 70 x 1) w (.pointer (some ⟨b, o + 16, none⟩)) w := FA Tryd.underlying70 rfl rfl sz4 hx
theorem FA70_2 (hx : ev l x = some (.pointer (some ⟨b, o, none⟩))) : Runs Tryd.prog l (.fieldAddr 70 x 2) w (.pointer (some ⟨b, o + 17, none⟩)) w := FA Tryd.underlying70 rfl rfl sz4 hx

theorem wrap_u8 (a : Int) : IntKind.u8.wrap a = a % 256 := IntKind.wrap_u8 a
theorem R.conv35 {a : Int} (hx : ev l x = some (.int .i64 a)) : Runs Tryd.prog l (.convert 3 5 x) w (u8v (byteOf a)) w := by
  have := R.convInt (P := Tryd.prog) (w := w) Tryd.underlying3 Tryd.underlying5 hx (wrap_u8 a)
  unfold u8v; rw [byteOf_toNat]; exact this
theorem R.conv53 {c : UInt8} (hx : ev l x = some (u8v c)) : Runs Tryd.prog l (.convert 5 3 x) w (.int .i64 (c.toNat : Int)) w :=
  R.convInt (P := Tryd.prog) Tryd.underlying5 Tryd.underlying3 hx (IntWalk.i64_in _ (by have := c.toNat_lt; omega))
theorem R.extract {vs : Array Value} {i : Nat} {P : Program} (hx : ev l x = some (.tuple vs)) (hi : vs[i]? = some v) : Runs P l (.extract x i) w v w := fun r _ _ _ _ _ he => by
  simp [execOp, he x _ hx, Instr.extract, hi]

/-- A store of one cell, at a type of one cell. -/
theorem OP.store1 {t e ty : TypeId} {pos : String} {af : Array Edge} {n : Nat} {Q : Exit → Act → World → Prop} {M : Env → World → Prop} {cs : Array Value} {fr : Nat × Nat} (hs : (Tryd.prog.info? t).map (·.size) = some 1) (hx : ev l x = some (.pointer (some ⟨b, o, none⟩))) (hy : ev l y = some v) (h1 : v.oneCell' = true) (hv : v.cells = #[v])
    (hb : w.heap[b]? = some (.cells cs e fr)) (ho : o < cs.size) (hf : (decide (fr.1 ≤ o) && decide (o < fr.2)) = false)
    (h : ∀ w', Chg (fun k => k = b) w w' → w'.heap.size = w.heap.size → w'.heap[b]? = some (.cells (cs.setIfInBounds o v) e fr) → M l w') :
    OP Tryd.prog Q ⟨none, .store t x y, ty, pos, af, none⟩ n l w M := by
  obtain ⟨i, hi, hz⟩ := inf_of hs
  exact OP.store hi hz hx hy h1 hv hb ho hf h
theorem OP.alloc1 {t e : TypeId} {pos : String} {af : Array Edge} {n d : Nat} {Q : Exit → Act → World → Prop} {M : Env → World → Prop} (zv : Value) (hdn : d < n) (hz : (Tryd.prog.info? e).map (·.zero) = some (some zv))
    (h : ∀ w', Chg (fun _ => False) w w' → w'.heap.size = w.heap.size + 1 → w'.heap[w.heap.size]? = some (.cells zv.cells e (0, 0)) → M ((d, .pointer (some ⟨w.heap.size, 0, none⟩)) :: l) w') :
    OP Tryd.prog Q ⟨some d, .alloc e, t, pos, af, none⟩ n l w M := by
  obtain ⟨i, hi, hzz⟩ := Option.map_eq_some_iff.1 hz
  exact OP.alloc hdn hi hzz h
theorem R.loadAgg1 {t : TypeId} {d : TypeDesc} {cs : List Value} (ht : Tryd.prog.underlying t = some d) (hd : isAggD d = true) (hs : (Tryd.prog.info? t).map (·.size) = some cs.length)
    (hx : ev l x = some (.pointer (some ⟨b, o, none⟩))) (hc : ∀ j u, cs[j]? = some u → w.cell? ⟨b, o + j, none⟩ = some u) :
    Runs Tryd.prog l (.load t x) w (.agg cs.toArray) w := by
  obtain ⟨i, hi, hz⟩ := inf_of hs
  exact R.loadAgg ht hd hi hz hx hc
theorem R.indexAddr1 {t e : TypeId} {m c i sz : Nat} {k : IntKind} {j : Int} (ht : Tryd.prog.underlying t = some (.slice e)) (hs : (Tryd.prog.info? e).map (·.size) = some sz) (hx : ev l x = some (.slice (some ⟨b, o, none⟩) m c)) (hy : ev l y = some (.int k j)) (hj : j = (i : Int)) (hlt : i < m) :
    Runs Tryd.prog l (.indexAddr t x y) w (.pointer (some ⟨b, o + i * sz, none⟩)) w := by
  obtain ⟨f, hi, hz⟩ := inf_of hs
  exact R.indexAddr ht hi hz hx hy hj hlt
theorem buildSlice_u8 (c : UInt8) (w : World) : (Instr.buildSlice 36 1 #[(0, u8v c)]).run Tryd.prog w = .ok (.slice (some ⟨w.heap.size, 0, none⟩) 1 1) (w.alloc (.cells #[u8v c] 5)) := by kernel_rfl
theorem OP.buildSlice1 {t : TypeId} {pos : String} {af : Array Edge} {n d : Nat} {Q : Exit → Act → World → Prop} {M : Env → World → Prop} {c : UInt8} (hdn : d < n) (hx : ev l x = some (u8v c))
    (h : ∀ w', Chg (fun _ => False) w w' → w'.heap.size = w.heap.size + 1 → w'.heap[w.heap.size]? = some (.cells #[u8v c] 5 (0, 0)) → M ((d, .slice (some ⟨w.heap.size, 0, none⟩) 1 1) :: l) w') :
    OP Tryd.prog Q ⟨some d, .buildSlice 36 1 #[(0, x)], t, pos, af, none⟩ n l w M :=
  OP.buildSlice (parts := [(0, x)]) (vals := [(0, u8v c)]) hdn (by simp [evp, hx]) (buildSlice_u8 c) h
end
end Go.Proofs.YthcpjcgjmdfpjaaDoor

namespace Go.Proofs.YthcpjcgjmdfpjaaDoor
open Go Go.RowKit
set_option maxRecDepth 100000

section
variable {P : Program} {ops : Array Oper} {Q : Exit → Act → World → Prop} {rest : List Oper} {n : Nat} {l : Env} {w w' : World} {o : Oper} {v u : Value} {M : Env → World → Prop}
variable {q : Op} {t e ty : TypeId} {pos : String} {af : Array Edge} {d : Nat} {x y z : Operand} {s r : List UInt8}

/-! ### Tests that part the way -/
section split
variable {k : IntKind} {a b : Int}
theorem WL.lssS (hdn : d < n) (hx : ev l x = some (.int k a)) (hy : ev l y = some (.int k b)) (hT : a < b → WL P ops Q rest n ((d, .bool true) :: l) w) (hF : ¬ a < b → WL P ops Q rest n ((d, .bool false) :: l) w) :
    WL P ops Q (⟨some d, .binOp .lss t x y ty, e, pos, af, none⟩ :: rest) n l w := by
  by_cases h : a < b
  · exact WL.op hdn (R.lss hx hy (decide_eq_true h)) (hT h)
  · exact WL.op hdn (R.lss hx hy (decide_eq_false h)) (hF h)
theorem WL.leqS (hdn : d < n) (hx : ev l x = some (.int k a)) (hy : ev l y = some (.int k b)) (hT : a ≤ b → WL P ops Q rest n ((d, .bool true) :: l) w) (hF : ¬ a ≤ b → WL P ops Q rest n ((d, .bool false) :: l) w) :
    WL P ops Q (⟨some d, .binOp .leq t x y ty, e, pos, af, none⟩ :: rest) n l w := by
  by_cases h : a ≤ b
  · exact WL.op hdn (R.leq hx hy (decide_eq_true h)) (hT h)
  · exact WL.op hdn (R.leq hx hy (decide_eq_false h)) (hF h)
theorem WL.gtrS (hdn : d < n) (hx : ev l x = some (.int k a)) (hy : ev l y = some (.int k b)) (hT : a > b → WL P ops Q rest n ((d, .bool true) :: l) w) (hF : ¬ a > b → WL P ops Q rest n ((d, .bool false) :: l) w) :
    WL P ops Q (⟨some d, .binOp .gtr t x y ty, e, pos, af, none⟩ :: rest) n l w := by
  by_cases h : a > b
  · exact WL.op hdn (R.gtr hx hy (decide_eq_true h)) (hT h)
  · exact WL.op hdn (R.gtr hx hy (decide_eq_false h)) (hF h)
theorem WL.geqS (hdn : d < n) (hx : ev l x = some (.int k a)) (hy : ev l y = some (.int k b)) (hT : a ≥ b → WL P ops Q rest n ((d, .bool true) :: l) w) (hF : ¬ a ≥ b → WL P ops Q rest n ((d, .bool false) :: l) w) :
    WL P ops Q (⟨some d, .binOp .geq t x y ty, e, pos, af, none⟩ :: rest) n l w := by
  by_cases h : a ≥ b
  · exact WL.op hdn (R.geq hx hy (decide_eq_true h)) (hT h)
  · exact WL.op hdn (R.geq hx hy (decide_eq_false h)) (hF h)
theorem WL.eqlS (hdn : d < n) (hx : ev l x = some (.int k a)) (hy : ev l y = some (.int k b)) (hT : a = b → WL P ops Q rest n ((d, .bool true) :: l) w) (hF : ¬ a = b → WL P ops Q rest n ((d, .bool false) :: l) w) :
    WL P ops Q (⟨some d, .binOp .eql t x y ty, e, pos, af, none⟩ :: rest) n l w := by
  by_cases h : a = b
  · exact WL.op hdn (R.eql hx hy (decide_eq_true h)) (hT h)
  · exact WL.op hdn (R.eql hx hy (decide_eq_false h)) (hF h)
theorem WL.neqS (hdn : d < n) (hx : ev l x = some (.int k a)) (hy : ev l y = some (.int k b)) (hT : ¬ a = b → WL P ops Q rest n ((d, .bool true) :: l) w) (hF : a = b → WL P ops Q rest n ((d, .bool false) :: l) w) :
    WL P ops Q (⟨some d, .binOp .neq t x y ty, e, pos, af, none⟩ :: rest) n l w := by
  by_cases h : a = b
  · exact WL.op hdn (R.neq hx hy (decide_eq_false (fun hn => hn h))) (hF h)
  · exact WL.op hdn (R.neq hx hy (decide_eq_true h)) (hT h)

variable {g : Nat × Bool} {j sl : Nat} {gb want : Bool}
theorem WL.gsplit (c : Prop) [Decidable c] (hdn : d < n) (hj : (ops[j]?).bind (·.dst) = some sl) (hs : Env.get l sl = some (.bool gb)) (hne : (gb == want) = true)
    (hr : Runs P l q w (.bool (decide c)) w) (hT : c → WL P ops Q rest n ((d, .bool true) :: l) w) (hF : ¬ c → WL P ops Q rest n ((d, .bool false) :: l) w) :
    WL P ops Q (⟨some d, q, e, pos, af, some (j, want)⟩ :: rest) n l w := by
  by_cases h : c
  · rw [decide_eq_true h] at hr; exact WL.gop hdn hj hs hne hr (hT h)
  · rw [decide_eq_false h] at hr; exact WL.gop hdn hj hs hne hr (hF h)
theorem WL.split (c : Prop) [Decidable c] (hdn : d < n) (hr : Runs P l q w (.bool (decide c)) w) (hT : c → WL P ops Q rest n ((d, .bool true) :: l) w) (hF : ¬ c → WL P ops Q rest n ((d, .bool false) :: l) w) :
    WL P ops Q (⟨some d, q, e, pos, af, none⟩ :: rest) n l w := by
  by_cases h : c
  · rw [decide_eq_true h] at hr; exact WL.op hdn hr (hT h)
  · rw [decide_eq_false h] at hr; exact WL.op hdn hr (hF h)
theorem R.lssD (hx : ev l x = some (.int k a)) (hy : ev l y = some (.int k b)) : Runs P l (.binOp .lss t x y ty) w (.bool (decide (a < b))) w := R.lss hx hy rfl
theorem R.leqD (hx : ev l x = some (.int k a)) (hy : ev l y = some (.int k b)) : Runs P l (.binOp .leq t x y ty) w (.bool (decide (a ≤ b))) w := R.leq hx hy rfl
theorem R.gtrD (hx : ev l x = some (.int k a)) (hy : ev l y = some (.int k b)) : Runs P l (.binOp .gtr t x y ty) w (.bool (decide (a > b))) w := R.gtr hx hy rfl
theorem R.geqD (hx : ev l x = some (.int k a)) (hy : ev l y = some (.int k b)) : Runs P l (.binOp .geq t x y ty) w (.bool (decide (a ≥ b))) w := R.geq hx hy rfl
theorem R.eqlD (hx : ev l x = some (.int k a)) (hy : ev l y = some (.int k b)) : Runs P l (.binOp .eql t x y ty) w (.bool (decide (a = b))) w := R.eql hx hy rfl
theorem R.neqD (hx : ev l x = some (.int k a)) (hy : ev l y = some (.int k b)) : Runs P l (.binOp .neq t x y ty) w (.bool (decide (¬ a = b))) w := R.neq hx hy rfl
end split

/-! ### Strings -/
theorem sv_size (s : List UInt8) : (⟨s.toArray⟩ : ByteArray).size = s.length := by simp [ByteArray.size]
theorem sv_inj {a b : List UInt8} (h : sv a = sv b) : a = b := by
  unfold sv at h; injection h with h; injection h with h; simpa using congrArg Array.toList h
theorem R.lenS {cs : Array TypeId} (hc : cs[0]? = some 9) (hx : ev l x = some (sv s)) : Runs Tryd.prog l (.call { callee := .builtin .len, args := #[x], argTypes := cs }) w (.int .i64 s.length) w := by
  have := R.lenStr (P := Tryd.prog) (w := w) hc Tryd.underlying9 hx
  rwa [sv_size] at this
theorem R.indexS {i : Nat} {k : IntKind} {j : Int} {c : UInt8} (hx : ev l x = some (sv s)) (hy : ev l y = some (.int k j)) (hj : j = (i : Int)) (hc : s[i]? = some c) : Runs Tryd.prog l (.index 9 x y) w (u8v c) w := fun r _ _ _ _ _ he => by
  subst hj
  have h1 : (⟨s.toArray⟩ : ByteArray)[i]? = some c := by
    have hlt : i < s.length := (List.getElem?_eq_some_iff.1 hc).1
    have hv := (List.getElem?_eq_some_iff.1 hc).2
    rw [getElem?_pos _ _ (by rw [sv_size]; exact hlt)]
    congr 1
  unfold sv at hx
  simp only [execOp, he x _ hx, he y _ hy, Instr.index, asIntOf, Sem.run_bind, Sem.run_pure, Result.andThen_ok, run_underlying Tryd.underlying9]
  have h0 : (0 : Int) ≤ (i : Int) := by omega
  simp only [h0, if_true, Int.toNat_natCast, h1]
  rfl
theorem R.binStr {op : BinOp} {a b : List UInt8} (hx : ev l x = some (sv a)) (hy : ev l y = some (sv b)) (h : (Op.stringOp op ⟨a.toArray⟩ ⟨b.toArray⟩) = pure v) (hop : op ≠ .shl ∧ op ≠ .shr := by decide) : Runs P l (.binOp op t x y ty) w v w := fun r _ _ _ _ _ he => by
  unfold sv at hx hy
  simp only [execOp, he x _ hx, he y _ hy, eqGuard]
  have : binOp op t (.string ⟨a.toArray⟩) (.string ⟨b.toArray⟩) = pure v := by rw [← h]; cases op <;> rfl
  rw [this]
  cases op <;> rfl
theorem R.eqlStr {a b : List UInt8} (hx : ev l x = some (sv a)) (hy : ev l y = some (sv b)) : Runs P l (.binOp .eql t x y ty) w (.bool (decide (a = b))) w :=
  R.binStr hx hy (by
    simp only [Op.stringOp, ByteArray.toList_mk]
    have : (a == b) = decide (a = b) := by by_cases h : a = b <;> simp [h]
    rw [this])
theorem R.neqStr {a b : List UInt8} (hx : ev l x = some (sv a)) (hy : ev l y = some (sv b)) : Runs P l (.binOp .neq t x y ty) w (.bool (decide (¬ a = b))) w :=
  R.binStr hx hy (by
    simp only [Op.stringOp, ByteArray.toList_mk]
    have : (!(a == b)) = decide (¬ a = b) := by by_cases h : a = b <;> simp [h]
    rw [this])
theorem R.addStr {a b : List UInt8} (hx : ev l x = some (sv a)) (hy : ev l y = some (sv b)) (h : a.length + b.length ≤ 9223372036854775807) : Runs P l (.binOp .add t x y ty) w (sv (a ++ b)) w :=
  R.binStr hx hy (by
    have h1 : ¬ ((((⟨a.toArray⟩ : ByteArray).size + (⟨b.toArray⟩ : ByteArray).size : Nat) : Int) > IntKind.i64.max) := by
      rw [sv_size, sv_size]; simp only [IntKind.max, IntKind.signed, IntKind.bits]; simp; omega
    simp only [Op.stringOp, h1, if_false, ByteArray.mk_append_mk]
    rfl)
theorem R.sliceS {lo hi : Nat} {k1 k2 : IntKind} {a b : Int} (hx : ev l x = some (sv s)) (ha : ev l y = some (.int k1 a)) (hb : ev l z = some (.int k2 b)) (hea : a = (lo : Int)) (heb : b = (hi : Int)) (h1 : lo ≤ hi) (h2 : hi ≤ s.length) :
    Runs Tryd.prog l (.slice 9 x (some y) (some z) none) w (sv ((s.take hi).drop lo)) w := fun r _ _ _ _ _ he => by
  subst hea heb
  unfold sv at hx
  have hb1 : (Instr.sliceBound (.int k2 (hi : Int)) s.length .sliceAlen).run Tryd.prog w = .ok hi w := by
    have := run_sliceBound (P := Tryd.prog) (w := w) k2 (hi : Int) s.length .sliceAlen (by omega) (by omega)
    simpa using this
  have hb2 : (Instr.sliceBound (.int k1 (lo : Int)) hi .sliceB).run Tryd.prog w = .ok lo w := by
    have := run_sliceBound (P := Tryd.prog) (w := w) k1 (lo : Int) hi .sliceB (by omega) (by omega)
    simpa using this
  have hbs : (Instr.sliceBounds false s.length s.length (some (.int k1 (lo : Int))) (some (.int k2 (hi : Int))) none).run Tryd.prog w = .ok (lo, hi, s.length) w := by
    simp [Instr.sliceBounds, hb1, hb2]
  have hsl : (Instr.slice 9 (.string ⟨s.toArray⟩) (some (.int k1 (lo : Int))) (some (.int k2 (hi : Int))) none).run Tryd.prog w = .ok (.string ((⟨s.toArray⟩ : ByteArray).extract lo hi)) w := by
    simp only [Instr.slice, Sem.run_bind, run_underlying Tryd.underlying9, Result.andThen_ok, Option.isSome_none, Bool.false_eq_true, if_false, sv_size, hbs, Sem.run_pure]
  have hext : (⟨s.toArray⟩ : ByteArray).extract lo hi = ⟨((s.take hi).drop lo).toArray⟩ := by
    apply ByteArray.ext
    simp only [ByteArray.data_extract]
    apply Array.ext'
    rw [List.drop_take]
    simp [List.extract]
  rw [hext] at hsl
  have hat : (Instr.sliceAt 9 (.string ⟨s.toArray⟩) (some (.int k1 (lo : Int))) (some (.int k2 (hi : Int))) none).run Tryd.prog w = .ok (sv ((s.take hi).drop lo)) w := by
    have := run_sliceAt_string (P := Tryd.prog) (w := w) 9 (.string ⟨s.toArray⟩) (some (.int k1 (lo : Int))) (some (.int k2 (hi : Int))) none Tryd.underlying9
    exact this.trans hsl
  simp only [execOp, he x _ hx, Option.map_some, Option.map_none, he y _ ha, he z _ hb, Sem.run_bind, hat, Result.andThen_ok]
  rfl

/-! ### Bytes and strings -/
theorem OP.bytesOf (hdn : d < n) (hx : ev l x = some (sv s))
    (h : ∀ w' (cap : Nat) (zs : Array Value) (fr : Nat × Nat), Chg (fun _ => False) w w' → w'.heap.size = w.heap.size + 1 → s.length ≤ cap → fr = (cap, cap + 1) → zs.size = cap → (∀ (j : Nat) (c : UInt8), s[j]? = some c → zs[j]? = some (u8v c)) →
      w'.heap[w.heap.size]? = some (.cells zs 5 fr) → M ((d, .slice (some ⟨w.heap.size, 0, none⟩) s.length cap) :: l) w') :
    OP Tryd.prog Q ⟨some d, .convert 9 36 x, t, pos, af, none⟩ n l w M := by
  unfold sv at hx
  have hr := run_bytes_of_string (P := Tryd.prog) w 9 36 5 ⟨s.toArray⟩ Tryd.underlying9 Tryd.underlying36 Tryd.underlying5
  rw [sv_size] at hr
  have hge := grownCap_ge w s.length 0 5
  have hsz : (bytesRow ⟨s.toArray⟩ (grownCap w s.length 0 5)).size = grownCap w s.length 0 5 := by
    simp [bytesRow, ByteArray.size]; omega
  refine OP.val hdn (fun r _ _ _ _ _ he => by
    simp only [execOp, he x _ hx, Sem.run_bind, hr, Result.andThen_ok]; rfl) (h _ (grownCap w s.length 0 5) (bytesRow ⟨s.toArray⟩ (grownCap w s.length 0 5)) _ ?_ (by simp) hge (by rw [hsz]) hsz ?_ (heap_alloc_new w.drew _))
  · exact ⟨rfl, rfl, rfl, by simp, fun k hk _ => Below.heap_alloc w.drew _ k hk⟩
  · intro j c hj
    have hlt : j < s.length := (List.getElem?_eq_some_iff.1 hj).1
    simp only [bytesRow]
    rw [Array.getElem?_append_left (by simp; exact hlt)]
    simp [hj, u8v]

theorem R.strOf {g ofs m cap : Nat} (hx : ev l x = some (.slice (some ⟨g, ofs, none⟩) m cap)) (hm : s.length = m) (hc : ∀ (j : Nat) (c : UInt8), s[j]? = some c → w.cell? ⟨g, ofs + j, none⟩ = some (u8v c)) :
    Runs Tryd.prog l (.convert 36 9 x) w (sv s) w := fun r _ _ _ _ _ he => by
  have := run_convert_bytes_arg (P := Tryd.prog) w 36 5 Tryd.underlying36 Tryd.underlying5 g ofs m cap (s.map fun b => (b.toNat : Int)) (by simpa using hm) (by
    intro i hi
    have hlt : i < s.length := by omega
    rw [hc i s[i] (List.getElem?_eq_getElem hlt)]
    simp [u8v, List.getD, hlt]) 9 Tryd.underlying9
  have e1 : strOfNums (s.map fun b => (b.toNat : Int)) = ⟨s.toArray⟩ := by
    apply ByteArray.ext
    apply Array.ext'
    rw [strOfNums_data, List.map_map]
    have : ((fun n : Int => UInt8.ofNat n.toNat) ∘ fun b : UInt8 => (b.toNat : Int)) = id := by
      funext b; simp
    rw [this]; simp
  rw [e1] at this
  simp only [execOp, he x _ hx, Sem.run_bind, this, Result.andThen_ok]
  rfl

/-! ### Slices of strings -/
def SBuf (w : World) (base : Nat) (v : Value) (ls : List (List UInt8)) : Prop := w.ownsRow base 9 1 v ls.length (ls.map sv)
theorem SBuf.kept {base : Nat} {ls : List (List UInt8)} {S : Nat → Prop} (h : SBuf w base v ls) (hc : Chg S w w') (hn : ∀ k, v.ownBlock = some k → ¬ S k) : SBuf w' base v ls := by
  refine ⟨h.1, ?_⟩
  rcases h.2 with h2 | ⟨g, cap, cur, rfl, hb, hg, r⟩
  · exact .inl h2
  · exact .inr ⟨g, cap, cur, rfl, hb, hc.at hg (hn g rfl), r⟩
theorem SBuf.lt {base : Nat} {ls : List (List UInt8)} (h : SBuf w base v ls) : ∀ k, v.ownBlock = some k → base ≤ k ∧ k < w.heap.size := World.ownsRow.lt h
/-- What is in a slice of strings. -/
theorem SBuf.open {base : Nat} {ls : List (List UInt8)} (h : SBuf w base v ls) : (v = .slice none 0 0 ∧ ls = []) ∨ ∃ g cap, v = .slice (some ⟨g, 0, none⟩) ls.length cap ∧ base ≤ g ∧ g < w.heap.size ∧ ls.length ≤ cap ∧ ∀ j s, ls[j]? = some s → w.cell? ⟨g, j, none⟩ = some (sv s) := by
  have hcells := h
  rcases h.2 with ⟨h2, h0⟩ | ⟨g, cap, cur, rfl, hb, hg, hle, r⟩
  · exact .inl ⟨h2, List.eq_nil_of_length_eq_zero h0⟩
  · refine .inr ⟨g, cap, rfl, hb, (Array.getElem?_eq_some_iff.1 hg).1, hle, fun j s hj => ?_⟩
    have := World.ownsRow.cells hcells (g := g) rfl j (sv s) (by simp [hj])
    rwa [Addr.add_none, Nat.zero_add] at this

theorem buildSlice_str (s : List UInt8) (w : World) : (Instr.buildSlice 80 1 #[(0, sv s)]).run Tryd.prog w = .ok (.slice (some ⟨w.heap.size, 0, none⟩) 1 1) (w.alloc (.cells #[sv s] 9)) := by unfold sv; kernel_rfl
theorem OP.buildSliceS {M : Env → World → Prop} (hdn : d < n) (hx : ev l x = some (sv s))
    (h : ∀ w', Chg (fun _ => False) w w' → w'.heap.size = w.heap.size + 1 → w'.heap[w.heap.size]? = some (.cells #[sv s] 9 (0, 0)) → M ((d, .slice (some ⟨w.heap.size, 0, none⟩) 1 1) :: l) w') :
    OP Tryd.prog Q ⟨some d, .buildSlice 80 1 #[(0, x)], t, pos, af, none⟩ n l w M :=
  OP.buildSlice (parts := [(0, x)]) (vals := [(0, sv s)]) hdn (by simp [evp, hx]) (buildSlice_str s) h

theorem OP.appendS {base g c : Nat} {ls : List (List UInt8)} (hdn : d < n) (hx : ev l x = some v) (hy : ev l y = some (.slice (some ⟨g, 0, none⟩) 1 c)) (hB : SBuf w base v ls) (hg : w.heap[g]? = some (.cells #[sv s] 9 (0, 0)))
    (hl : (ls.length + 1) * 16 ≤ 140737488355328) (hb : base ≤ w.heap.size)
    (h : ∀ v' w', SBuf w' base v' (ls ++ [s]) → Moved w w' v v' → M ((d, v') :: l) w') :
    OP Tryd.prog Q ⟨some d, .call { callee := .builtin .append, args := #[x, y], argTypes := #[80, 80] }, t, pos, af, none⟩ n l w M := by
  obtain ⟨i0, hi, hz0, hz1, hz2⟩ := info_parts Tryd.info9
  have hnews : ∀ j u, ([sv s])[j]? = some u → w.cell? ((⟨g, 0, none⟩ : Addr).add j) = some u := by
    intro j u hj
    rw [Addr.add_none, Nat.zero_add]
    refine cell_at hg ?_
    match j, hj with
    | 0, hj => simpa using hj
  obtain ⟨v', w', hr, h2, h3, _, h5⟩ := run_append_own_at (P := Tryd.prog) w base 80 t 9 i0 (.string ⟨#[]⟩) 1 16 Tryd.underlying80 hi hz0 hz1 hz2 rfl (by decide) v ls.length (ls.map sv) hB ⟨g, 0, none⟩ 1 c [sv s] (by simp) hnews (by simp [sv, Value.oneCell']) (by unfold maxLen; omega) (by omega) hb
  refine OP.val (v := v') (w' := w') hdn (fun r _ _ _ _ _ he => ?_) (h v' w' ?_ ⟨h3, h5.imp id (fun e => ⟨_, e, Nat.le_refl _⟩)⟩)
  · simp only [execOp, resolve, invoke, builtin, Sem.run_bind, Sem.run_pure, Result.andThen_ok, List.map_toArray, List.map_cons, List.map_nil, he x _ hx, he y _ hy]
    have e1 : ∀ ty, (Builtin.append_ #[80, 80] ty #[v, .slice (some ⟨g, 0, none⟩) 1 c]).run Tryd.prog w = (Builtin.append_ #[80, 80] t #[v, .slice (some ⟨g, 0, none⟩) 1 c]).run Tryd.prog w := fun _ => rfl
    rw [e1, hr]; rfl
  · unfold SBuf; rw [List.length_append, List.map_append]; exact h2

/-- 'x[lo:hi]' of a slice in memory. -/
theorem R.sliceSl {elem g ofs m cap lo hi : Nat} {k1 k2 : IntKind} {a b : Int} (ht : Tryd.prog.underlying t = some (.slice elem)) (hs : (Tryd.prog.info? elem).map (·.size) = some 1) (hx : ev l x = some (.slice (some ⟨g, ofs, none⟩) m cap)) (ha : ev l y = some (.int k1 a)) (hb : ev l z = some (.int k2 b))
    (hea : a = (lo : Int)) (heb : b = (hi : Int)) (h1 : lo ≤ hi) (h2 : hi ≤ cap) :
    Runs Tryd.prog l (.slice t x (some y) (some z) none) w (.slice (some (if cap = lo then ⟨g, ofs, none⟩ else ⟨g, ofs + lo, none⟩)) (hi - lo) (cap - lo)) w := fun r _ _ _ _ _ he => by
  subst hea heb
  obtain ⟨inf, hi', hz⟩ := inf_of hs
  have hb1 : (Instr.sliceBound (.int k2 (hi : Int)) cap .sliceAcap).run Tryd.prog w = .ok hi w := by
    have := run_sliceBound (P := Tryd.prog) (w := w) k2 (hi : Int) cap .sliceAcap (by omega) (by omega)
    simpa using this
  have hb2 : (Instr.sliceBound (.int k1 (lo : Int)) hi .sliceB).run Tryd.prog w = .ok lo w := by
    have := run_sliceBound (P := Tryd.prog) (w := w) k1 (lo : Int) hi .sliceB (by omega) (by omega)
    simpa using this
  have hbs : (Instr.sliceBounds true m cap (some (.int k1 (lo : Int))) (some (.int k2 (hi : Int))) none).run Tryd.prog w = .ok (lo, hi, cap) w := by
    simp [Instr.sliceBounds, hb1, hb2]
  have hat : (Instr.sliceAt t (.slice (some ⟨g, ofs, none⟩) m cap) (some (.int k1 (lo : Int))) (some (.int k2 (hi : Int))) none).run Tryd.prog w = .ok (.slice (some (if cap = lo then ⟨g, ofs, none⟩ else ⟨g, ofs + lo, none⟩)) (hi - lo) (cap - lo)) w := by
    simp only [Instr.sliceAt, Instr.slice, Sem.run_bind, run_underlying ht, Result.andThen_ok, hbs, sizeOf, typeInfo, run_program, hi', hz, Nat.mul_one, Sem.run_pure]
    by_cases hq : cap = lo <;> simp [hq, Addr.add_none]
  simp only [execOp, he x _ hx, Option.map_some, Option.map_none, he y _ ha, he z _ hb, Sem.run_bind, hat, Result.andThen_ok]
  rfl
/-- 'x[lo:]' of a slice in memory. -/
theorem R.sliceLo {elem g ofs m cap lo : Nat} {k1 : IntKind} {a : Int} (ht : Tryd.prog.underlying t = some (.slice elem)) (hs : (Tryd.prog.info? elem).map (·.size) = some 1) (hx : ev l x = some (.slice (some ⟨g, ofs, none⟩) m cap)) (ha : ev l y = some (.int k1 a))
    (hea : a = (lo : Int)) (h1 : lo < m) (h2 : m ≤ cap) :
    Runs Tryd.prog l (.slice t x (some y) none none) w (.slice (some ⟨g, ofs + lo, none⟩) (m - lo) (cap - lo)) w := fun r _ _ _ _ _ he => by
  subst hea
  obtain ⟨inf, hi', hz⟩ := inf_of hs
  have hb2 : (Instr.sliceBound (.int k1 (lo : Int)) m .sliceB).run Tryd.prog w = .ok lo w := by
    have := run_sliceBound (P := Tryd.prog) (w := w) k1 (lo : Int) m .sliceB (by omega) (by omega)
    simpa using this
  have hbs : (Instr.sliceBounds true m cap (some (.int k1 (lo : Int))) none none).run Tryd.prog w = .ok (lo, m, cap) w := by
    simp [Instr.sliceBounds, hb2]
  have hat : (Instr.sliceAt t (.slice (some ⟨g, ofs, none⟩) m cap) (some (.int k1 (lo : Int))) none none).run Tryd.prog w = .ok (.slice (some ⟨g, ofs + lo, none⟩) (m - lo) (cap - lo)) w := by
    have hne : ¬ cap = lo := by omega
    simp only [Instr.sliceAt, Instr.slice, Sem.run_bind, run_underlying ht, Result.andThen_ok, hbs, sizeOf, typeInfo, run_program, hi', hz, Nat.mul_one, Sem.run_pure, hne, if_false]
    simp [Addr.add_none]
  simp only [execOp, he x _ hx, Option.map_some, Option.map_none, he y _ ha, Sem.run_bind, hat, Result.andThen_ok]
  rfl
end
end Go.Proofs.YthcpjcgjmdfpjaaDoor
namespace Go.Proofs.YthcpjcgjmdfpjaaDoor
open Go Go.RowKit
theorem binOp_orB (t : TypeId) (a b : UInt8) : binOp .or t (u8v a) (u8v b) = pure (u8v (a ||| b)) := by
  unfold u8v
  simp only [binOp, Op.intBits, ne_eq, not_true, ite_false]
  have h : ∀ c : UInt8, (BitVec.ofInt 8 (c.toNat : Int)).toNat = c.toNat := by
    intro c
    simp
  have e : (BitVec.ofInt IntKind.u8.bits (a.toNat : Int) ||| BitVec.ofInt IntKind.u8.bits (b.toNat : Int)).toNat = (a ||| b).toNat := by
    show (BitVec.ofInt 8 (a.toNat : Int) ||| BitVec.ofInt 8 (b.toNat : Int)).toNat = (a ||| b).toNat
    rw [BitVec.toNat_or, h, h, UInt8.toNat_or]
  rw [e, IntWalk.u8_in _ (by have := (a ||| b).toNat_lt; omega)]
theorem R.orB {l : Env} {w : World} {x y : Operand} {t ty : TypeId} {P : Program} {a b : UInt8} (hx : ev l x = some (u8v a)) (hy : ev l y = some (u8v b)) : Runs P l (.binOp .or t x y ty) w (u8v (a ||| b)) w :=
  R.bin hx hy (binOp_orB t a b)
theorem c_eq {c : UInt8} {n : Nat} (h : (c.toNat : Int) = (n : Int)) (hn : n < 256 := by decide) : c = UInt8.ofNat n := by
  apply UInt8.toNat_inj.1
  rw [UInt8.toNat_ofNat']
  omega
end Go.Proofs.YthcpjcgjmdfpjaaDoor

namespace Go.Proofs.YthcpjcgjmdfpjaaDoor

/-- A capital turned small. -/
def low1 (c : UInt8) : UInt8 := if 65 ≤ c.toNat ∧ c.toNat ≤ 90 then c + 32 else c
def lower (s : List UInt8) : List UInt8 := s.map low1
/-- A sign of a label. -/
def okc (c : UInt8) : Bool := (48 ≤ c.toNat && c.toNat ≤ 57) || c.toNat == 45 || c.toNat == 95 || (97 ≤ (c ||| 32).toNat && (c ||| 32).toNat ≤ 122 && 65 ≤ c.toNat)
/-- A label that may be. -/
def rightL (s : List UInt8) : Bool := s != [] && s.length ≤ 63 && s.head? != some 45 && s.getLast? != some 45 && s.all okc
/-- A name's labels. -/
def splitL : List UInt8 → List (List UInt8)
  | [] => [[]]
  | c :: r => if c = 46 then [] :: splitL r else match splitL r with
    | [] => [[c]]
    | x :: xs => (c :: x) :: xs
def joinL : List (List UInt8) → List UInt8
  | [] => []
  | [x] => x
  | x :: y :: r => x ++ 46 :: joinL (y :: r)
/-- A name that goes out. -/
def namesL (s : List UInt8) : Bool := s.length ≤ 253 && lower s == s && (splitL s).all rightL

theorem low1_big {c : UInt8} (h1 : 65 ≤ c.toNat) (h2 : c.toNat ≤ 90) : low1 c = c + 32 ∧ (c + 32).toNat = c.toNat + 32 := by
  refine ⟨if_pos ⟨h1, h2⟩, ?_⟩
  rw [UInt8.toNat_add]; simp; omega
theorem low1_not {c : UInt8} (h : ¬ (65 ≤ c.toNat ∧ c.toNat ≤ 90)) : low1 c = c := if_neg h

theorem lower_length (s : List UInt8) : (lower s).length = s.length := by simp [lower]

/-- The signs up to a place turned small, the others as they are. -/
def lowTo (s : List UInt8) (j : Nat) : List UInt8 := lower (s.take j) ++ s.drop j
theorem lowTo_zero (s : List UInt8) : lowTo s 0 = s := by simp [lowTo, lower]
theorem lowTo_all (s : List UInt8) : lowTo s s.length = lower s := by simp [lowTo]
theorem lowTo_length (s : List UInt8) (j : Nat) : (lowTo s j).length = s.length := by simp [lowTo, lower_length]; omega
theorem lowTo_at {s : List UInt8} {j : Nat} {c : UInt8} (h : s[j]? = some c) : (lowTo s j)[j]? = some c := by
  have hlt := (List.getElem?_eq_some_iff.1 h).1
  simp only [lowTo]
  rw [List.getElem?_append_right (by simp [lower_length]; omega)]
  simp only [lower_length, List.length_take, List.getElem?_drop]
  rw [show j + (j - min j s.length) = j by omega]; exact h
theorem lowTo_succ {s : List UInt8} {j : Nat} {c : UInt8} (h : s[j]? = some c) : lowTo s (j + 1) = (lowTo s j).set j (low1 c) := by
  have hlt := (List.getElem?_eq_some_iff.1 h).1
  have hv := (List.getElem?_eq_some_iff.1 h).2
  apply List.ext_getElem?
  intro k
  rw [List.getElem?_set]
  simp only [lowTo, lower, List.map_take]
  by_cases hk : j = k
  · subst hk
    rw [if_pos rfl, List.getElem?_append_left (by simp; omega)]
    simp [hlt, hv]
    omega
  · rw [if_neg hk]
    by_cases h2 : k < j
    · rw [List.getElem?_append_left (by simp; omega), List.getElem?_append_left (by simp; omega)]
      simp [show k < j + 1 by omega, h2]
    · rw [List.getElem?_append_right (by simp; omega), List.getElem?_append_right (by simp; omega)]
      simp only [List.length_take, List.length_map, List.getElem?_drop]
      congr 1; omega

end Go.Proofs.YthcpjcgjmdfpjaaDoor
namespace Go.Proofs.YthcpjcgjmdfpjaaDoor
/-- Signs ahead of the first label. -/
def ph (cur : List UInt8) : List (List UInt8) → List (List UInt8)
  | [] => [cur]
  | x :: xs => (cur ++ x) :: xs
theorem splitL_ne (s : List UInt8) : splitL s ≠ [] := by
  cases s with
  | nil => simp [splitL]
  | cons c r =>
    unfold splitL
    split
    · simp
    · split <;> simp
theorem ph_nil {l : List (List UInt8)} (h : l ≠ []) : ph [] l = l := by
  cases l with
  | nil => exact absurd rfl h
  | cons x xs => rfl
theorem splitL_dot (r : List UInt8) : splitL (46 :: r) = [] :: splitL r := by simp [splitL]
theorem splitL_sign {c : UInt8} (h : c ≠ 46) (r : List UInt8) : splitL (c :: r) = ph [c] (splitL r) := by
  simp only [splitL, if_neg h]
  cases splitL r <;> rfl
theorem ph_ph (a b : List UInt8) (l : List (List UInt8)) : ph a (ph b l) = ph (a ++ b) l := by
  cases l with
  | nil => rfl
  | cons x xs => simp [ph]
/-- What Split has gathered at place j, of the label that begins at 'from'. -/
def SplitAt (s : List UInt8) (done : List (List UInt8)) (fr j : Nat) : Prop :=
  fr ≤ j ∧ splitL s = done ++ ph ((s.take j).drop fr) (splitL (s.drop j))
theorem SplitAt.start (s : List UInt8) : SplitAt s [] 0 0 := ⟨Nat.le_refl _, by simp [ph_nil (splitL_ne s)]⟩
theorem SplitAt.sign {s : List UInt8} {done : List (List UInt8)} {fr j : Nat} {c : UInt8} (h : SplitAt s done fr j) (hc : s[j]? = some c) (hne : c ≠ 46) : SplitAt s done fr (j + 1) := by
  obtain ⟨h1, h2⟩ := h
  have hlt := (List.getElem?_eq_some_iff.1 hc).1
  have hv := (List.getElem?_eq_some_iff.1 hc).2
  refine ⟨by omega, ?_⟩
  rw [h2, List.drop_eq_getElem_cons hlt, hv, splitL_sign hne, ph_ph, List.take_succ_eq_append_getElem hlt, hv, List.drop_append_of_le_length (by simp; omega)]
theorem SplitAt.dot {s : List UInt8} {done : List (List UInt8)} {fr j : Nat} (h : SplitAt s done fr j) (hc : s[j]? = some 46) : SplitAt s (done ++ [(s.take j).drop fr]) (j + 1) (j + 1) := by
  obtain ⟨h1, h2⟩ := h
  have hlt := (List.getElem?_eq_some_iff.1 hc).1
  have hv := (List.getElem?_eq_some_iff.1 hc).2
  refine ⟨by omega, ?_⟩
  rw [h2, List.drop_eq_getElem_cons hlt, hv, splitL_dot]
  have : (s.take (j + 1)).drop (j + 1) = [] := List.drop_of_length_le (by simp; omega)
  rw [this, ph_nil (splitL_ne _)]
  simp [ph]
theorem SplitAt.last {s : List UInt8} {done : List (List UInt8)} {fr : Nat} (h : SplitAt s done fr s.length) : done ++ [(s.take s.length).drop fr] = splitL s := by
  rw [h.2]; simp [ph, splitL]
end Go.Proofs.YthcpjcgjmdfpjaaDoor
namespace Go.Proofs.YthcpjcgjmdfpjaaDoor
theorem joinL_snoc : ∀ (l : List (List UInt8)) (x : List UInt8), joinL (l ++ [x]) = if l = [] then x else joinL l ++ 46 :: x
  | [], x => by simp [joinL]
  | [a], x => by simp [joinL]
  | a :: b :: r, x => by
    have := joinL_snoc (b :: r) x
    simp only [List.cons_append, joinL] at this ⊢
    rw [this]
    simp
theorem joinL_le (l : List (List UInt8)) : ∀ r : List (List UInt8), (joinL l).length ≤ (joinL (l ++ r)).length
  | [] => by simp
  | x :: r => by
    have h1 := joinL_le (l ++ [x]) r
    rw [List.append_assoc] at h1
    refine Nat.le_trans ?_ h1
    rw [joinL_snoc]
    split
    · rename_i h; subst h; simp [joinL]
    · simp
termination_by r => r.length
theorem joinL_take {ls : List (List UInt8)} {j : Nat} {x : List UInt8} (h : ls[j]? = some x) : joinL (ls.take (j + 1)) = if j = 0 then x else joinL (ls.take j) ++ 46 :: x := by
  have hlt := (List.getElem?_eq_some_iff.1 h).1
  have hv := (List.getElem?_eq_some_iff.1 h).2
  rw [List.take_succ_eq_append_getElem hlt, hv, joinL_snoc]
  by_cases e : j = 0
  · subst e; simp
  · have : ls.take j ≠ [] := by
      intro h0
      have := congrArg List.length h0
      rw [List.length_take, List.length_nil] at this
      omega
    rw [if_neg this, if_neg e]
theorem joinL_take_le (ls : List (List UInt8)) (j : Nat) : (joinL (ls.take j)).length ≤ (joinL ls).length := by
  have := joinL_le (ls.take j) (ls.drop j)
  rwa [List.take_append_drop] at this
end Go.Proofs.YthcpjcgjmdfpjaaDoor
namespace Go.Proofs.YthcpjcgjmdfpjaaDoor
theorem rightL_false {s : List UInt8} (h : s = [] ∨ 63 < s.length ∨ s[0]? = some 45 ∨ s[s.length - 1]? = some 45 ∨ ∃ (j : Nat) (c : UInt8), s[j]? = some c ∧ okc c = false) : rightL s = false := by
  unfold rightL
  rcases h with h | h | h | h | ⟨j, c, hc, ho⟩
  · simp [h]
  · have : ¬ s.length ≤ 63 := by omega
    simp [this]
  · have : s.head? = some 45 := by rw [List.head?_eq_getElem?]; exact h
    simp [this]
  · have : s.getLast? = some 45 := by rw [List.getLast?_eq_getElem?]; exact h
    simp [this]
  · have : s.all okc = false := by
      rw [List.all_eq_false]
      exact ⟨c, List.mem_of_getElem? hc, by simp [ho]⟩
    simp [this]
theorem rightL_true {s : List UInt8} (h0 : ¬ s = []) (h1 : s.length ≤ 63) (h2 : ¬ s[0]? = some 45) (h3 : ¬ s[s.length - 1]? = some 45) (h4 : ∀ (j : Nat) (c : UInt8), s[j]? = some c → okc c = true) : rightL s = true := by
  unfold rightL
  have e2 : ¬ s.head? = some 45 := by rw [List.head?_eq_getElem?]; exact h2
  have e3 : ¬ s.getLast? = some 45 := by rw [List.getLast?_eq_getElem?]; exact h3
  have e4 : s.all okc = true := by
    rw [List.all_eq_true]
    intro c hc
    obtain ⟨j, hj⟩ := List.getElem?_of_mem hc
    exact h4 j c hj
  simp [h0, h1, e2, e3, e4]
theorem okc_step {s : List UInt8} {j : Nat} {c : UInt8} (h : ∀ (k : Nat) (d : UInt8), k < j → s[k]? = some d → okc d = true) (hc : s[j]? = some c) (ho : okc c = true) : ∀ (k : Nat) (d : UInt8), k < j + 1 → s[k]? = some d → okc d = true := by
  intro k d hk hd
  by_cases e : k = j
  · subst e; rw [hc] at hd; obtain rfl := Option.some.inj hd; exact ho
  · exact h k d (by omega) hd
end Go.Proofs.YthcpjcgjmdfpjaaDoor
namespace Go.Proofs.YthcpjcgjmdfpjaaDoor
theorem namesL_false {s : List UInt8} (h : 253 < s.length ∨ ¬ lower s = s ∨ ∃ (j : Nat) (x : List UInt8), (splitL s)[j]? = some x ∧ rightL x = false) : namesL s = false := by
  unfold namesL
  rcases h with h | h | ⟨j, x, hx, hr⟩
  · have : ¬ s.length ≤ 253 := by omega
    simp [this]
  · simp [h]
  · have : (splitL s).all rightL = false := by
      rw [List.all_eq_false]
      exact ⟨x, List.mem_of_getElem? hx, by simp [hr]⟩
    simp [this]
theorem namesL_true {s : List UInt8} (h1 : s.length ≤ 253) (h2 : lower s = s) (h3 : ∀ (j : Nat) (x : List UInt8), (splitL s)[j]? = some x → rightL x = true) : namesL s = true := by
  unfold namesL
  have : (splitL s).all rightL = true := by
    rw [List.all_eq_true]
    intro x hx
    obtain ⟨j, hj⟩ := List.getElem?_of_mem hx
    exact h3 j x hj
  simp [this, h1, h2]
theorem all_step {ls : List (List UInt8)} {j : Nat} {x : List UInt8} (h : ∀ (k : Nat) (d : List UInt8), k < j → ls[k]? = some d → rightL d = true) (hc : ls[j]? = some x) (ho : rightL x = true) : ∀ (k : Nat) (d : List UInt8), k < j + 1 → ls[k]? = some d → rightL d = true := by
  intro k d hk hd
  by_cases e : k = j
  · subst e; rw [hc] at hd; obtain rfl := Option.some.inj hd; exact ho
  · exact h k d (by omega) hd
theorem ph_length (a : List UInt8) {l : List (List UInt8)} (h : l ≠ []) : (ph a l).length = l.length := by
  cases l with
  | nil => exact absurd rfl h
  | cons x xs => rfl
theorem splitL_length (s : List UInt8) : (splitL s).length ≤ s.length + 1 := by
  induction s with
  | nil => simp [splitL]
  | cons c r ih =>
    by_cases e : c = 46
    · subst e; rw [splitL_dot]; simp; omega
    · rw [splitL_sign e, ph_length _ (splitL_ne r)]; simp; omega
theorem splitL_mem_length (s : List UInt8) : ∀ x ∈ splitL s, x.length ≤ s.length := by
  induction s with
  | nil => simp [splitL]
  | cons c r ih =>
    intro x hx
    by_cases e : c = 46
    · subst e; rw [splitL_dot] at hx
      rcases List.mem_cons.1 hx with rfl | h
      · simp
      · have := ih x h; simp; omega
    · rw [splitL_sign e] at hx
      cases hr : splitL r with
      | nil => exact absurd hr (splitL_ne r)
      | cons y ys =>
        rw [hr] at hx ih
        simp only [ph] at hx
        rcases List.mem_cons.1 hx with rfl | h
        · have := ih y (by simp); simp; omega
        · have := ih x (by simp [h]); simp; omega
theorem splitL_label {s : List UInt8} {j : Nat} {x : List UInt8} (h : (splitL s)[j]? = some x) : x.length ≤ s.length := splitL_mem_length s x (List.mem_of_getElem? h)
end Go.Proofs.YthcpjcgjmdfpjaaDoor

namespace Go.Proofs.YthcpjcgjmdfpjaaDoor
open Go Go.RowKit
set_option maxRecDepth 100000

theorem low_up {s : List UInt8} {j : Nat} {c : UInt8} {zs : Array Value} (hc : s[j]? = some c) (hz : ∀ (k : Nat) (c : UInt8), (lowTo s j)[k]? = some c → zs[k]? = some (u8v c)) (h : low1 c = c + 32 ∧ (c + 32).toNat = c.toNat + 32) (hlt : j < zs.size) :
    ∀ (k : Nat) (d : UInt8), (lowTo s (j + 1))[k]? = some d → (zs.setIfInBounds (0 + j * 1) (.int .u8 ((c.toNat : Int) + 32)))[k]? = some (u8v d) := by
  intro k d hk
  rw [lowTo_succ hc, List.getElem?_set] at hk
  rw [Array.getElem?_setIfInBounds]
  by_cases e : j = k
  · subst e
    rw [if_pos rfl] at hk
    split at hk
    · obtain rfl := Option.some.inj hk
      rw [if_pos (by omega), if_pos (by omega)]
      unfold u8v; rw [h.1, h.2]; simp
    · cases hk
  · rw [if_neg e] at hk
    rw [if_neg (by omega)]
    exact hz k d hk
theorem low_same {s : List UInt8} {j : Nat} {c : UInt8} {zs : Array Value} (hc : s[j]? = some c) (hz : ∀ (k : Nat) (c : UInt8), (lowTo s j)[k]? = some c → zs[k]? = some (u8v c)) (h : low1 c = c) :
    ∀ (k : Nat) (d : UInt8), (lowTo s (j + 1))[k]? = some d → zs[k]? = some (u8v d) := by
  intro k d hk
  refine hz k d ?_
  rw [lowTo_succ hc, h, List.getElem?_set] at hk
  by_cases e : j = k
  · subst e
    rw [if_pos rfl] at hk
    split at hk
    · rw [lowTo_at hc]; exact hk
    · cases hk
  · rwa [if_neg e] at hk

theorem lower_any (s : List UInt8) (w : World) (hl : s.length ≤ 1099511627776) :
    Calls Tryd.prog 38 #[sv s] w fun e w' => e = .returned (sv (lower s)) ∧ Chg (fun _ => False) w w' := by
  refine calls_cw (args := [sv s]) Tryd.func38 rfl rfl ?_
  show CW _ _ _ 29 [(0, sv s)] w
  refine CW.rseq ?_
  refine WL.op (by decide) (R.assign rfl) ?_
  refine WL.next ?_
  refine CW.rseq ?_
  refine WL.op (by decide) (R.move rfl) ?_
  refine WL.eff rfl (OP.bytesOf (by decide) rfl ?_)
  intro w1 cap zs fr hc1 hs1 hle hfr hzs hz hb1
  refine WL.op (by decide) (R.assign rfl) ?_
  refine WL.next ?_
  refine CW.seq ?_
  refine CW.rseq ?_
  refine WL.op (by decide) (R.move rfl) ?_
  refine WL.op (by decide) (R.lenSlice rfl Tryd.underlying36 rfl) ?_
  refine WL.op (by decide) (R.move rfl) ?_
  refine WL.next ?_
  refine CW.block ?_
  refine CW.loopK [3, 8, 9, 10] (fun m l wr => ∃ (j : Nat) (i : Int) (zs : Array Value), j + m = s.length ∧ i = (j : Int) ∧ l = [(3, .slice (some ⟨w.heap.size, 0, none⟩) s.length cap), (8, .slice (some ⟨w.heap.size, 0, none⟩) s.length cap), (9, .int .i64 s.length), (10, .int .i64 i)] ∧ Chg (fun _ => False) w wr ∧ wr.heap[w.heap.size]? = some (.cells zs 5 (cap, cap + 1)) ∧ zs.size = cap ∧ ∀ (k : Nat) (c : UInt8), (lowTo s j)[k]? = some c → zs[k]? = some (u8v c)) (s.length) ?_ ?_
  · exact ⟨0, _, zs, by omega, rfl, rfl, hc1, hfr ▸ hb1, hzs, fun k c hk => hz k c (by rwa [lowTo_zero] at hk)⟩
  · rintro m l wr ⟨j, i, zs, hm, rfl, rfl, hC, hB, hzs, hz⟩
    have hF : (decide (cap ≤ 0 + j * 1) && decide (0 + j * 1 < cap + 1)) = false ∨ s.length ≤ j := by
      by_cases h : j < s.length
      · left; simp; omega
      · right; omega
    refine CW.rseq ?_
    refine WL.lssS (by decide) rfl rfl (fun h1 => ?_) (fun h1 => ?_)
    · skip
      refine WL.next ?_
      refine CW.seq ?_
      refine CW.condT rfl ?_
      refine CW.skip ?_
      refine EW.next ?_
      refine CW.seq ?_
      refine CW.block ?_
      refine CW.rseq ?_
      have hlt : j < s.length := by omega
      obtain ⟨c, hc⟩ : ∃ c, s[j]? = some c := ⟨s[j], List.getElem?_eq_getElem hlt⟩
      refine WL.op (by decide) (R.move rfl) ?_
      refine WL.op (by decide) (R.indexAddr1 Tryd.underlying36 sz5 rfl rfl rfl hlt) ?_
      refine WL.op (by decide) (R.load Tryd.underlying5 rfl rfl (cell_at hB (by simpa using hz j c (lowTo_at hc)))) ?_
      refine WL.op (by decide) (R.assign rfl) ?_
      refine WL.op (by decide) (R.assign rfl) ?_
      refine WL.next ?_
      refine CW.rseq ?_
      refine WL.op (by decide) (R.move rfl) ?_
      refine WL.geqS (by decide) rfl rfl (fun h2 => ?_) (fun h2 => ?_)
      · skip
        refine WL.op (by decide) (R.move rfl) ?_
        refine WL.gop (by decide) rfl rfl rfl (R.move rfl) ?_
        refine WL.gsplit _ (by decide) rfl rfl rfl (R.leqD rfl rfl) (fun h3 => ?_) (fun h3 => ?_)
        · skip
          refine WL.op (by decide) (R.pickT rfl rfl) ?_
          refine WL.next ?_
          refine CW.condT rfl ?_
          refine CW.region ?_
          refine WL.op (by decide) (R.move rfl) ?_
          refine WL.op (by decide) (R.move rfl) ?_
          refine WL.op (by decide) (R.move rfl) ?_
          refine WL.op (by decide) (R.addu8 rfl rfl (by omega)) ?_
          refine WL.op (by decide) (R.indexAddr1 Tryd.underlying36 sz5 rfl rfl rfl hlt) ?_
          refine WL.eff rfl (OP.store1 sz5 rfl rfl rfl rfl hB (by omega) (hF.resolve_right (by omega)) ?_)
          intro w2 hc2 hs2 hb2
          refine WL.nil ?_
          refine EW.inNormal ?_
          refine EW.next ?_
          refine CW.region ?_
          refine WL.op (by decide) (R.add rfl rfl (by omega)) ?_
          refine WL.op (by decide) (R.move rfl) ?_
          refine WL.nil ?_
          refine EW.roundK [3, 8, 9, 10] (m - 1) (by omega) ⟨j + 1, _, _, by omega, by omega, rfl, hC.then hc2 (by intro k hk e; omega), hb2, by simp [hzs], low_up hc hz (low1_big (by omega) (by omega)) (by omega)⟩
        · skip
          refine WL.op (by decide) (R.pickT rfl rfl) ?_
          refine WL.next ?_
          refine CW.condF rfl ?_
          refine CW.skip ?_
          refine EW.inNormal ?_
          refine EW.next ?_
          refine CW.region ?_
          refine WL.op (by decide) (R.add rfl rfl (by omega)) ?_
          refine WL.op (by decide) (R.move rfl) ?_
          refine WL.nil ?_
          refine EW.roundK [3, 8, 9, 10] (m - 1) (by omega) ⟨j + 1, _, zs, by omega, by omega, rfl, hC, hB, hzs, low_same hc hz (low1_not (by omega))⟩
      · skip
        refine WL.op (by decide) (R.move rfl) ?_
        refine WL.pass (by decide) rfl rfl rfl ?_
        refine WL.pass (by decide) rfl rfl rfl ?_
        refine WL.op (by decide) (R.pickF rfl rfl) ?_
        refine WL.next ?_
        refine CW.condF rfl ?_
        refine CW.skip ?_
        refine EW.inNormal ?_
        refine EW.next ?_
        refine CW.region ?_
        refine WL.op (by decide) (R.add rfl rfl (by omega)) ?_
        refine WL.op (by decide) (R.move rfl) ?_
        refine WL.nil ?_
        refine EW.roundK [3, 8, 9, 10] (m - 1) (by omega) ⟨j + 1, _, zs, by omega, by omega, rfl, hC, hB, hzs, low_same hc hz (low1_not (by omega))⟩
    · skip
      refine WL.next ?_
      refine CW.seq ?_
      refine CW.condF rfl ?_
      refine CW.exit ?_
      refine EW.thenExit ?_
      refine EW.thenExit ?_
      refine EW.inHere ?_
      refine EW.next ?_
      refine CW.rseq ?_
      refine WL.op (by decide) (R.move rfl) ?_
      refine WL.op (by decide) (R.strOf rfl (lower_length s) (fun k c hk => by rw [Nat.zero_add]; exact cell_at hB (hz k c (by rw [show j = s.length by omega, lowTo_all]; exact hk)))) ?_
      refine WL.op (by decide) (R.assign rfl) ?_
      refine WL.next ?_
      refine CW.ret ?_
      refine EW.ret1 (.inl rfl) rfl rfl ⟨rfl, hC⟩
end Go.Proofs.YthcpjcgjmdfpjaaDoor

namespace Go.Proofs.YthcpjcgjmdfpjaaDoor
open Go Go.RowKit
set_option maxRecDepth 100000

theorem split_any (s : List UInt8) (w : World) (hl : s.length ≤ 1099511627776) :
    Calls Tryd.prog 39 #[sv s] w fun e w' => ∃ v, e = .returned v ∧ SBuf w' w.heap.size v (splitL s) ∧ Chg (fun _ => False) w w' := by
  refine calls_cw (args := [sv s]) Tryd.func39 rfl rfl ?_
  show CW _ _ _ 33 [(0, sv s)] w
  refine CW.rseq ?_
  refine WL.op (by decide) (R.assign rfl) ?_
  refine WL.next ?_
  refine CW.rseq ?_
  refine WL.op (by decide) (R.assign rfl) ?_
  refine WL.next ?_
  refine CW.rseq ?_
  refine WL.op (by decide) (R.assign rfl) ?_
  refine WL.next ?_
  refine CW.seq ?_
  refine CW.rseq ?_
  refine WL.op (by decide) (R.move rfl) ?_
  refine WL.op (by decide) (R.lenS rfl rfl) ?_
  refine WL.op (by decide) (R.add rfl rfl (by omega)) ?_
  refine WL.op (by decide) (R.move rfl) ?_
  refine WL.next ?_
  refine CW.block ?_
  refine CW.loopK [0, 3, 4, 8, 9] (fun m l wr => ∃ (j fr : Nat) (i f : Int) (v : Value) (done : List (List UInt8)), j + m = s.length + 1 ∧ i = (j : Int) ∧ f = (fr : Int) ∧ l = [(0, sv s), (3, v), (4, .int .i64 f), (8, .int .i64 ((s.length : Int) + 1)), (9, .int .i64 i)] ∧ Chg (fun _ => False) w wr ∧ SBuf wr w.heap.size v done ∧ done.length ≤ j ∧ (j ≤ s.length → SplitAt s done fr j) ∧ (j = s.length + 1 → done = splitL s)) (s.length + 1) ?_ ?_
  · exact ⟨0, 0, _, _, _, [], by omega, rfl, rfl, rfl, Chg.refl _ _, World.ownsRow_nil _ _ _ _, by simp, fun _ => SplitAt.start s, fun h => by omega⟩
  · rintro m l wr ⟨j, fr, i, f, v, done, hm, rfl, rfl, rfl, hC, hB, hd, hS, hE⟩
    have hws := hC.size
    refine CW.rseq ?_
    refine WL.lssS (by decide) rfl rfl (fun h1 => ?_) (fun h1 => ?_)
    · skip
      refine WL.next ?_
      refine CW.seq ?_
      refine CW.condT rfl ?_
      refine CW.skip ?_
      refine EW.next ?_
      refine CW.seq ?_
      refine CW.block ?_
      refine CW.rseq ?_
      refine WL.op (by decide) (R.move rfl) ?_
      refine WL.op (by decide) (R.assign rfl) ?_
      refine WL.next ?_
      refine CW.rseq ?_
      refine WL.op (by decide) (R.move rfl) ?_
      refine WL.op (by decide) (R.move rfl) ?_
      refine WL.op (by decide) (R.lenS rfl rfl) ?_
      refine WL.eqlS (by decide) rfl rfl (fun h2 => ?_) (fun h2 => ?_)
      · skip
        refine WL.op (by decide) (R.move rfl) ?_
        refine WL.pass (by decide) rfl rfl rfl ?_
        refine WL.pass (by decide) rfl rfl rfl ?_
        refine WL.pass (by decide) rfl rfl rfl ?_
        refine WL.pass (by decide) rfl rfl rfl ?_
        refine WL.op (by decide) (R.pickT rfl rfl) ?_
        refine WL.next ?_
        refine CW.condT rfl ?_
        refine CW.rseq ?_
        refine WL.op (by decide) (R.move rfl) ?_
        refine WL.op (by decide) (R.move rfl) ?_
        refine WL.op (by decide) (R.move rfl) ?_
        refine WL.op (by decide) (R.move rfl) ?_
        have hj : j ≤ s.length := by omega
        obtain ⟨hfj, hsp⟩ := hS hj
        refine WL.op (by decide) (R.sliceS rfl rfl rfl rfl rfl hfj hj) ?_
        refine WL.eff rfl (OP.buildSliceS (by decide) rfl ?_)
        intro w1 hc1 hs1 hb1
        have hB1 := hB.kept hc1 (fun _ _ h => h)
        refine WL.eff rfl (OP.appendS (by decide) rfl rfl hB1 hb1 (by omega) (by omega) ?_)
        intro v2 w2 hB2 hM2
        have hC2 : Chg (fun _ => False) w w2 := (hC.trans hc1).then (Chg.moved hM2) (fun k hk e => by have := hB1.lt k e.symm; omega)
        refine WL.op (by decide) (R.assign rfl) ?_
        refine WL.next ?_
        refine CW.region ?_
        refine WL.op (by decide) (R.move rfl) ?_
        refine WL.op (by decide) (R.add rfl rfl (by omega)) ?_
        refine WL.op (by decide) (R.assign rfl) ?_
        refine WL.nil ?_
        refine EW.inNormal ?_
        refine EW.next ?_
        refine CW.region ?_
        refine WL.op (by decide) (R.add rfl rfl (by omega)) ?_
        refine WL.op (by decide) (R.move rfl) ?_
        refine WL.nil ?_
        refine EW.roundK [0, 3, 4, 8, 9] (m - 1) (by omega) ⟨j + 1, j + 1, _, _, v2, _, by omega, by omega, by omega, rfl, hC2, hB2, by simp; omega, ?_, ?_⟩
        · intro h; omega
        · intro h; obtain rfl : j = s.length := by omega
          exact SplitAt.last ⟨hfj, hsp⟩
      · skip
        refine WL.op (by decide) (R.move rfl) ?_
        have hjn : j < s.length := by omega
        obtain ⟨c, hc⟩ : ∃ c, s[j]? = some c := ⟨s[j], List.getElem?_eq_getElem hjn⟩
        refine WL.gop (by decide) rfl rfl rfl (R.move rfl) ?_
        refine WL.gop (by decide) rfl rfl rfl (R.move rfl) ?_
        refine WL.gop (by decide) rfl rfl rfl (R.indexS rfl rfl rfl hc) ?_
        refine WL.gsplit _ (by decide) rfl rfl rfl (R.eqlD rfl rfl) (fun h3 => ?_) (fun h3 => ?_)
        · skip
          refine WL.op (by decide) (R.pickF rfl rfl) ?_
          refine WL.next ?_
          refine CW.condT rfl ?_
          refine CW.rseq ?_
          refine WL.op (by decide) (R.move rfl) ?_
          refine WL.op (by decide) (R.move rfl) ?_
          refine WL.op (by decide) (R.move rfl) ?_
          refine WL.op (by decide) (R.move rfl) ?_
          have hj : j ≤ s.length := by omega
          obtain ⟨hfj, hsp⟩ := hS hj
          refine WL.op (by decide) (R.sliceS rfl rfl rfl rfl rfl hfj hj) ?_
          refine WL.eff rfl (OP.buildSliceS (by decide) rfl ?_)
          intro w1 hc1 hs1 hb1
          have hB1 := hB.kept hc1 (fun _ _ h => h)
          refine WL.eff rfl (OP.appendS (by decide) rfl rfl hB1 hb1 (by omega) (by omega) ?_)
          intro v2 w2 hB2 hM2
          have hC2 : Chg (fun _ => False) w w2 := (hC.trans hc1).then (Chg.moved hM2) (fun k hk e => by have := hB1.lt k e.symm; omega)
          refine WL.op (by decide) (R.assign rfl) ?_
          refine WL.next ?_
          refine CW.region ?_
          refine WL.op (by decide) (R.move rfl) ?_
          refine WL.op (by decide) (R.add rfl rfl (by omega)) ?_
          refine WL.op (by decide) (R.assign rfl) ?_
          refine WL.nil ?_
          refine EW.inNormal ?_
          refine EW.next ?_
          refine CW.region ?_
          refine WL.op (by decide) (R.add rfl rfl (by omega)) ?_
          refine WL.op (by decide) (R.move rfl) ?_
          refine WL.nil ?_
          refine EW.roundK [0, 3, 4, 8, 9] (m - 1) (by omega) ⟨j + 1, j + 1, _, _, v2, _, by omega, by omega, by omega, rfl, hC2, hB2, by simp; omega, ?_, ?_⟩
          · intro _; exact SplitAt.dot ⟨hfj, hsp⟩ (by rw [hc]; congr 1; exact UInt8.toNat_inj.1 (by simpa using Int.ofNat_inj.1 h3))
          · intro h; omega
        · skip
          refine WL.op (by decide) (R.pickF rfl rfl) ?_
          refine WL.next ?_
          refine CW.condF rfl ?_
          refine CW.skip ?_
          refine EW.inNormal ?_
          refine EW.next ?_
          refine CW.region ?_
          refine WL.op (by decide) (R.add rfl rfl (by omega)) ?_
          refine WL.op (by decide) (R.move rfl) ?_
          refine WL.nil ?_
          refine EW.roundK [0, 3, 4, 8, 9] (m - 1) (by omega) ⟨j + 1, fr, _, _, v, done, by omega, by omega, rfl, rfl, hC, hB, by omega, fun _ => (hS (by omega)).sign hc (fun e => h3 (by rw [e]; rfl)), fun h => by omega⟩
    · skip
      refine WL.next ?_
      refine CW.seq ?_
      refine CW.condF rfl ?_
      refine CW.exit ?_
      refine EW.thenExit ?_
      refine EW.thenExit ?_
      refine EW.inHere ?_
      refine EW.next ?_
      refine CW.rseq ?_
      refine WL.op (by decide) (R.move rfl) ?_
      refine WL.op (by decide) (R.assign rfl) ?_
      refine WL.next ?_
      refine CW.ret ?_
      obtain rfl := hE (by omega)
      refine EW.ret1 (.inl rfl) rfl rfl ⟨v, rfl, hB, hC⟩
end Go.Proofs.YthcpjcgjmdfpjaaDoor

namespace Go.Proofs.YthcpjcgjmdfpjaaDoor
open Go Go.RowKit
set_option maxRecDepth 100000
set_option maxHeartbeats 1000000

theorem right_any (s : List UInt8) (w : World) (hl : s.length ≤ 1099511627776) :
    Calls Tryd.prog 40 #[sv s] w fun e w' => e = .returned (.bool (rightL s)) ∧ w = w' := by
  refine calls_cw (args := [sv s]) Tryd.func40 rfl rfl ?_
  show CW _ _ _ 74 [(0, sv s)] w
  refine CW.rseq ?_
  refine WL.op (by decide) (R.assign rfl) ?_
  refine WL.next ?_
  refine CW.seq ?_
  refine CW.rseq ?_
  refine WL.op (by decide) (R.move rfl) ?_
  refine WL.split _ (by decide) (R.eqlStr rfl rfl) (fun h1 => ?_) (fun h1 => ?_)
  · skip
    refine WL.op (by decide) (R.move rfl) ?_
    refine WL.pass (by decide) rfl rfl rfl ?_
    refine WL.pass (by decide) rfl rfl rfl ?_
    refine WL.pass (by decide) rfl rfl rfl ?_
    refine WL.op (by decide) (R.pickT rfl rfl) ?_
    refine WL.op (by decide) (R.move rfl) ?_
    refine WL.pass (by decide) rfl rfl rfl ?_
    refine WL.pass (by decide) rfl rfl rfl ?_
    refine WL.pass (by decide) rfl rfl rfl ?_
    refine WL.op (by decide) (R.pickT rfl rfl) ?_
    refine WL.op (by decide) (R.move rfl) ?_
    refine WL.pass (by decide) rfl rfl rfl ?_
    refine WL.pass (by decide) rfl rfl rfl ?_
    refine WL.pass (by decide) rfl rfl rfl ?_
    refine WL.pass (by decide) rfl rfl rfl ?_
    refine WL.pass (by decide) rfl rfl rfl ?_
    refine WL.pass (by decide) rfl rfl rfl ?_
    refine WL.op (by decide) (R.pickT rfl rfl) ?_
    refine WL.next ?_
    refine CW.condT rfl ?_
    refine CW.rseq ?_
    refine WL.op (by decide) (R.assign rfl) ?_
    refine WL.next ?_
    refine CW.ret ?_
    refine EW.thenRet ?_
    refine EW.ret1 (.inl rfl) rfl rfl ⟨?_, rfl⟩
    rw [rightL_false (.inl h1)]
  · skip
    refine WL.op (by decide) (R.move rfl) ?_
    refine WL.gop (by decide) rfl rfl rfl (R.move rfl) ?_
    refine WL.gop (by decide) rfl rfl rfl (R.lenS rfl rfl) ?_
    refine WL.gsplit _ (by decide) rfl rfl rfl (R.gtrD rfl rfl) (fun h2 => ?_) (fun h2 => ?_)
    · skip
      refine WL.op (by decide) (R.pickF rfl rfl) ?_
      refine WL.op (by decide) (R.move rfl) ?_
      refine WL.pass (by decide) rfl rfl rfl ?_
      refine WL.pass (by decide) rfl rfl rfl ?_
      refine WL.pass (by decide) rfl rfl rfl ?_
      refine WL.op (by decide) (R.pickT rfl rfl) ?_
      refine WL.op (by decide) (R.move rfl) ?_
      refine WL.pass (by decide) rfl rfl rfl ?_
      refine WL.pass (by decide) rfl rfl rfl ?_
      refine WL.pass (by decide) rfl rfl rfl ?_
      refine WL.pass (by decide) rfl rfl rfl ?_
      refine WL.pass (by decide) rfl rfl rfl ?_
      refine WL.pass (by decide) rfl rfl rfl ?_
      refine WL.op (by decide) (R.pickT rfl rfl) ?_
      refine WL.next ?_
      refine CW.condT rfl ?_
      refine CW.rseq ?_
      refine WL.op (by decide) (R.assign rfl) ?_
      refine WL.next ?_
      refine CW.ret ?_
      refine EW.thenRet ?_
      refine EW.ret1 (.inl rfl) rfl rfl ⟨?_, rfl⟩
      rw [rightL_false (.inr (.inl (by omega)))]
    · skip
      refine WL.op (by decide) (R.pickF rfl rfl) ?_
      refine WL.op (by decide) (R.move rfl) ?_
      obtain ⟨c0, hc0⟩ : ∃ c, s[0]? = some c := by
        cases s with
        | nil => exact absurd rfl h1
        | cons a r => exact ⟨a, rfl⟩
      have hpos : 0 < s.length := (List.getElem?_eq_some_iff.1 hc0).1
      refine WL.gop (by decide) rfl rfl rfl (R.move rfl) ?_
      refine WL.gop (by decide) rfl rfl rfl (R.indexS (i := 0) rfl rfl rfl hc0) ?_
      refine WL.gsplit _ (by decide) rfl rfl rfl (R.eqlD rfl rfl) (fun h3 => ?_) (fun h3 => ?_)
      · skip
        refine WL.op (by decide) (R.pickF rfl rfl) ?_
        refine WL.op (by decide) (R.move rfl) ?_
        refine WL.pass (by decide) rfl rfl rfl ?_
        refine WL.pass (by decide) rfl rfl rfl ?_
        refine WL.pass (by decide) rfl rfl rfl ?_
        refine WL.pass (by decide) rfl rfl rfl ?_
        refine WL.pass (by decide) rfl rfl rfl ?_
        refine WL.pass (by decide) rfl rfl rfl ?_
        refine WL.op (by decide) (R.pickT rfl rfl) ?_
        refine WL.next ?_
        refine CW.condT rfl ?_
        refine CW.rseq ?_
        refine WL.op (by decide) (R.assign rfl) ?_
        refine WL.next ?_
        refine CW.ret ?_
        refine EW.thenRet ?_
        refine EW.ret1 (.inl rfl) rfl rfl ⟨?_, rfl⟩
        rw [rightL_false (.inr (.inr (.inl (by rw [hc0]; congr 1; exact c_eq (n := 45) h3))))]
      · skip
        refine WL.op (by decide) (R.pickF rfl rfl) ?_
        refine WL.op (by decide) (R.move rfl) ?_
        refine WL.gop (by decide) rfl rfl rfl (R.move rfl) ?_
        refine WL.gop (by decide) rfl rfl rfl (R.move rfl) ?_
        refine WL.gop (by decide) rfl rfl rfl (R.lenS rfl rfl) ?_
        obtain ⟨cl, hcl⟩ : ∃ c, s[s.length - 1]? = some c := ⟨s[s.length - 1], List.getElem?_eq_getElem (by omega)⟩
        refine WL.gop (by decide) rfl rfl rfl (R.sub rfl rfl (by omega)) ?_
        refine WL.gop (by decide) rfl rfl rfl (R.indexS rfl rfl (by omega) hcl) ?_
        refine WL.gsplit _ (by decide) rfl rfl rfl (R.eqlD rfl rfl) (fun h4 => ?_) (fun h4 => ?_)
        · skip
          refine WL.op (by decide) (R.pickF rfl rfl) ?_
          refine WL.next ?_
          refine CW.condT rfl ?_
          refine CW.rseq ?_
          refine WL.op (by decide) (R.assign rfl) ?_
          refine WL.next ?_
          refine CW.ret ?_
          refine EW.thenRet ?_
          refine EW.ret1 (.inl rfl) rfl rfl ⟨?_, rfl⟩
          rw [rightL_false (.inr (.inr (.inr (.inl (by rw [hcl]; congr 1; exact c_eq (n := 45) h4)))))]
        · skip
          refine WL.op (by decide) (R.pickF rfl rfl) ?_
          refine WL.next ?_
          refine CW.condF rfl ?_
          refine CW.skip ?_
          refine EW.next ?_
          refine CW.seq ?_
          refine CW.rseq ?_
          refine WL.op (by decide) (R.move rfl) ?_
          refine WL.op (by decide) (R.lenS rfl rfl) ?_
          refine WL.op (by decide) (R.move rfl) ?_
          refine WL.next ?_
          refine CW.block ?_
          refine CW.loopK [0, 27, 28] (fun m l wr => wr = w ∧ ∃ (j : Nat) (i : Int), j + m = s.length ∧ i = (j : Int) ∧ l = [(0, sv s), (27, .int .i64 s.length), (28, .int .i64 i)] ∧ ∀ (k : Nat) (d : UInt8), k < j → s[k]? = some d → okc d = true) (s.length) ?_ ?_
          · exact ⟨rfl, 0, _, by omega, rfl, rfl, fun k d hk => by omega⟩
          · rintro m l wr ⟨rfl, j, i, hm, rfl, rfl, hK⟩
            refine CW.rseq ?_
            refine WL.lssS (by decide) rfl rfl (fun h5 => ?_) (fun h5 => ?_)
            · skip
              refine WL.next ?_
              refine CW.seq ?_
              refine CW.condT rfl ?_
              refine CW.skip ?_
              refine EW.next ?_
              refine CW.seq ?_
              refine CW.block ?_
              refine CW.rseq ?_
              refine WL.op (by decide) (R.move rfl) ?_
              refine WL.op (by decide) (R.assign rfl) ?_
              refine WL.next ?_
              refine CW.rseq ?_
              have hlt : j < s.length := by omega
              obtain ⟨c, hc⟩ : ∃ c, s[j]? = some c := ⟨s[j], List.getElem?_eq_getElem hlt⟩
              refine WL.op (by decide) (R.move rfl) ?_
              refine WL.op (by decide) (R.move rfl) ?_
              refine WL.op (by decide) (R.indexS rfl rfl rfl hc) ?_
              refine WL.op (by decide) (R.orB (b := 32) rfl rfl) ?_
              refine WL.op (by decide) (R.assign rfl) ?_
              refine WL.next ?_
              refine CW.rseq ?_
              refine WL.op (by decide) (R.move rfl) ?_
              refine WL.op (by decide) (R.move rfl) ?_
              refine WL.op (by decide) (R.indexS rfl rfl rfl hc) ?_
              refine WL.geqS (by decide) rfl rfl (fun h6 => ?_) (fun h6 => ?_)
              · skip
                refine WL.op (by decide) (R.move rfl) ?_
                refine WL.gop (by decide) rfl rfl rfl (R.move rfl) ?_
                refine WL.gop (by decide) rfl rfl rfl (R.move rfl) ?_
                refine WL.gop (by decide) rfl rfl rfl (R.indexS rfl rfl rfl hc) ?_
                refine WL.gsplit _ (by decide) rfl rfl rfl (R.leqD rfl rfl) (fun h7 => ?_) (fun h7 => ?_)
                · skip
                  refine WL.op (by decide) (R.pickT rfl rfl) ?_
                  refine WL.op (by decide) (R.assign rfl) ?_
                  refine WL.next ?_
                  refine CW.rseq ?_
                  refine WL.op (by decide) (R.move rfl) ?_
                  refine WL.op (by decide) (R.not rfl) ?_
                  refine WL.op (by decide) (R.move rfl) ?_
                  refine WL.pass (by decide) rfl rfl rfl ?_
                  refine WL.pass (by decide) rfl rfl rfl ?_
                  refine WL.pass (by decide) rfl rfl rfl ?_
                  refine WL.pass (by decide) rfl rfl rfl ?_
                  refine WL.op (by decide) (R.pickF rfl rfl) ?_
                  refine WL.op (by decide) (R.move rfl) ?_
                  refine WL.pass (by decide) rfl rfl rfl ?_
                  refine WL.pass (by decide) rfl rfl rfl ?_
                  refine WL.pass (by decide) rfl rfl rfl ?_
                  refine WL.pass (by decide) rfl rfl rfl ?_
                  refine WL.op (by decide) (R.pickF rfl rfl) ?_
                  refine WL.op (by decide) (R.move rfl) ?_
                  refine WL.pass (by decide) rfl rfl rfl ?_
                  refine WL.pass (by decide) rfl rfl rfl ?_
                  refine WL.pass (by decide) rfl rfl rfl ?_
                  refine WL.passU (by decide) rfl rfl ?_
                  refine WL.passU (by decide) rfl rfl ?_
                  refine WL.pass (by decide) rfl rfl rfl ?_
                  refine WL.pass (by decide) rfl rfl rfl ?_
                  refine WL.passU (by decide) rfl rfl ?_
                  refine WL.passU (by decide) rfl rfl ?_
                  refine WL.passU (by decide) rfl rfl ?_
                  refine WL.passU (by decide) rfl rfl ?_
                  refine WL.pass (by decide) rfl rfl rfl ?_
                  refine WL.op (by decide) (R.pickF rfl rfl) ?_
                  refine WL.next ?_
                  refine CW.condF rfl ?_
                  refine CW.skip ?_
                  refine EW.inNormal ?_
                  refine EW.next ?_
                  refine CW.region ?_
                  refine WL.op (by decide) (R.add rfl rfl (by omega)) ?_
                  refine WL.op (by decide) (R.move rfl) ?_
                  refine WL.nil ?_
                  exact EW.roundK [0, 27, 28] (m - 1) (by omega) ⟨rfl, j + 1, _, by omega, by omega, rfl, okc_step hK hc (by simp [okc, -UInt8.toNat_or]; omega)⟩
                · skip
                  refine WL.op (by decide) (R.pickT rfl rfl) ?_
                  refine WL.op (by decide) (R.assign rfl) ?_
                  refine WL.next ?_
                  refine CW.rseq ?_
                  refine WL.op (by decide) (R.move rfl) ?_
                  refine WL.op (by decide) (R.not rfl) ?_
                  refine WL.op (by decide) (R.move rfl) ?_
                  refine WL.gop (by decide) rfl rfl rfl (R.move rfl) ?_
                  refine WL.gop (by decide) rfl rfl rfl (R.move rfl) ?_
                  refine WL.gop (by decide) rfl rfl rfl (R.indexS rfl rfl rfl hc) ?_
                  refine WL.gsplit _ (by decide) rfl rfl rfl (R.neqD rfl rfl) (fun h8 => ?_) (fun h8 => ?_)
                  · skip
                    refine WL.op (by decide) (R.pickT rfl rfl) ?_
                    refine WL.op (by decide) (R.move rfl) ?_
                    refine WL.gop (by decide) rfl rfl rfl (R.move rfl) ?_
                    refine WL.gop (by decide) rfl rfl rfl (R.move rfl) ?_
                    refine WL.gop (by decide) rfl rfl rfl (R.indexS rfl rfl rfl hc) ?_
                    refine WL.gsplit _ (by decide) rfl rfl rfl (R.neqD rfl rfl) (fun h9 => ?_) (fun h9 => ?_)
                    · skip
                      refine WL.op (by decide) (R.pickT rfl rfl) ?_
                      refine WL.op (by decide) (R.move rfl) ?_
                      refine WL.gop (by decide) rfl rfl rfl (R.move rfl) ?_
                      refine WL.gsplit _ (by decide) rfl rfl rfl (R.lssD rfl rfl) (fun h10 => ?_) (fun h10 => ?_)
                      · skip
                        refine WL.gop (by decide) rfl rfl rfl (R.move rfl) ?_
                        refine WL.pass (by decide) rfl rfl rfl ?_
                        refine WL.pass (by decide) rfl rfl rfl ?_
                        refine WL.gop (by decide) rfl rfl rfl (R.pickT rfl rfl) ?_
                        refine WL.gop (by decide) rfl rfl rfl (R.move rfl) ?_
                        refine WL.pass (by decide) rfl rfl rfl ?_
                        refine WL.pass (by decide) rfl rfl rfl ?_
                        refine WL.pass (by decide) rfl rfl rfl ?_
                        refine WL.pass (by decide) rfl rfl rfl ?_
                        refine WL.gop (by decide) rfl rfl rfl (R.pickT rfl rfl) ?_
                        refine WL.op (by decide) (R.pickT rfl rfl) ?_
                        refine WL.next ?_
                        refine CW.condT rfl ?_
                        refine CW.rseq ?_
                        refine WL.op (by decide) (R.assign rfl) ?_
                        refine WL.next ?_
                        refine CW.ret ?_
                        refine EW.inRet ?_
                        refine EW.thenRet ?_
                        refine EW.thenRet ?_
                        refine EW.inRet ?_
                        refine EW.thenRet ?_
                        refine EW.ret1 (.inl rfl) rfl rfl ⟨?_, rfl⟩
                        rw [rightL_false (.inr (.inr (.inr (.inr ⟨j, c, hc, by simp [okc, -UInt8.toNat_or]; omega⟩))))]
                      · skip
                        refine WL.gop (by decide) rfl rfl rfl (R.move rfl) ?_
                        refine WL.gop (by decide) rfl rfl rfl (R.move rfl) ?_
                        refine WL.gsplit _ (by decide) rfl rfl rfl (R.gtrD rfl rfl) (fun h11 => ?_) (fun h11 => ?_)
                        · skip
                          refine WL.gop (by decide) rfl rfl rfl (R.pickF rfl rfl) ?_
                          refine WL.gop (by decide) rfl rfl rfl (R.move rfl) ?_
                          refine WL.pass (by decide) rfl rfl rfl ?_
                          refine WL.pass (by decide) rfl rfl rfl ?_
                          refine WL.pass (by decide) rfl rfl rfl ?_
                          refine WL.pass (by decide) rfl rfl rfl ?_
                          refine WL.gop (by decide) rfl rfl rfl (R.pickT rfl rfl) ?_
                          refine WL.op (by decide) (R.pickT rfl rfl) ?_
                          refine WL.next ?_
                          refine CW.condT rfl ?_
                          refine CW.rseq ?_
                          refine WL.op (by decide) (R.assign rfl) ?_
                          refine WL.next ?_
                          refine CW.ret ?_
                          refine EW.inRet ?_
                          refine EW.thenRet ?_
                          refine EW.thenRet ?_
                          refine EW.inRet ?_
                          refine EW.thenRet ?_
                          refine EW.ret1 (.inl rfl) rfl rfl ⟨?_, rfl⟩
                          rw [rightL_false (.inr (.inr (.inr (.inr ⟨j, c, hc, by simp [okc, -UInt8.toNat_or]; omega⟩))))]
                        · skip
                          refine WL.gop (by decide) rfl rfl rfl (R.pickF rfl rfl) ?_
                          refine WL.gop (by decide) rfl rfl rfl (R.move rfl) ?_
                          refine WL.gop (by decide) rfl rfl rfl (R.move rfl) ?_
                          refine WL.gop (by decide) rfl rfl rfl (R.move rfl) ?_
                          refine WL.gop (by decide) rfl rfl rfl (R.indexS rfl rfl rfl hc) ?_
                          refine WL.gsplit _ (by decide) rfl rfl rfl (R.lssD rfl rfl) (fun h12 => ?_) (fun h12 => ?_)
                          · skip
                            refine WL.gop (by decide) rfl rfl rfl (R.pickF rfl rfl) ?_
                            refine WL.op (by decide) (R.pickT rfl rfl) ?_
                            refine WL.next ?_
                            refine CW.condT rfl ?_
                            refine CW.rseq ?_
                            refine WL.op (by decide) (R.assign rfl) ?_
                            refine WL.next ?_
                            refine CW.ret ?_
                            refine EW.inRet ?_
                            refine EW.thenRet ?_
                            refine EW.thenRet ?_
                            refine EW.inRet ?_
                            refine EW.thenRet ?_
                            refine EW.ret1 (.inl rfl) rfl rfl ⟨?_, rfl⟩
                            rw [rightL_false (.inr (.inr (.inr (.inr ⟨j, c, hc, by simp [okc, -UInt8.toNat_or]; omega⟩))))]
                          · skip
                            refine WL.gop (by decide) rfl rfl rfl (R.pickF rfl rfl) ?_
                            refine WL.op (by decide) (R.pickT rfl rfl) ?_
                            refine WL.next ?_
                            refine CW.condF rfl ?_
                            refine CW.skip ?_
                            refine EW.inNormal ?_
                            refine EW.next ?_
                            refine CW.region ?_
                            refine WL.op (by decide) (R.add rfl rfl (by omega)) ?_
                            refine WL.op (by decide) (R.move rfl) ?_
                            refine WL.nil ?_
                            exact EW.roundK [0, 27, 28] (m - 1) (by omega) ⟨rfl, j + 1, _, by omega, by omega, rfl, okc_step hK hc (by simp [okc, -UInt8.toNat_or]; omega)⟩
                    · skip
                      refine WL.op (by decide) (R.pickT rfl rfl) ?_
                      refine WL.op (by decide) (R.move rfl) ?_
                      refine WL.pass (by decide) rfl rfl rfl ?_
                      refine WL.pass (by decide) rfl rfl rfl ?_
                      refine WL.pass (by decide) rfl rfl rfl ?_
                      refine WL.passU (by decide) rfl rfl ?_
                      refine WL.passU (by decide) rfl rfl ?_
                      refine WL.pass (by decide) rfl rfl rfl ?_
                      refine WL.pass (by decide) rfl rfl rfl ?_
                      refine WL.passU (by decide) rfl rfl ?_
                      refine WL.passU (by decide) rfl rfl ?_
                      refine WL.passU (by decide) rfl rfl ?_
                      refine WL.passU (by decide) rfl rfl ?_
                      refine WL.pass (by decide) rfl rfl rfl ?_
                      refine WL.op (by decide) (R.pickF rfl rfl) ?_
                      refine WL.next ?_
                      refine CW.condF rfl ?_
                      refine CW.skip ?_
                      refine EW.inNormal ?_
                      refine EW.next ?_
                      refine CW.region ?_
                      refine WL.op (by decide) (R.add rfl rfl (by omega)) ?_
                      refine WL.op (by decide) (R.move rfl) ?_
                      refine WL.nil ?_
                      exact EW.roundK [0, 27, 28] (m - 1) (by omega) ⟨rfl, j + 1, _, by omega, by omega, rfl, okc_step hK hc (by simp [okc, -UInt8.toNat_or]; omega)⟩
                  · skip
                    refine WL.op (by decide) (R.pickT rfl rfl) ?_
                    refine WL.op (by decide) (R.move rfl) ?_
                    refine WL.pass (by decide) rfl rfl rfl ?_
                    refine WL.pass (by decide) rfl rfl rfl ?_
                    refine WL.pass (by decide) rfl rfl rfl ?_
                    refine WL.pass (by decide) rfl rfl rfl ?_
                    refine WL.op (by decide) (R.pickF rfl rfl) ?_
                    refine WL.op (by decide) (R.move rfl) ?_
                    refine WL.pass (by decide) rfl rfl rfl ?_
                    refine WL.pass (by decide) rfl rfl rfl ?_
                    refine WL.pass (by decide) rfl rfl rfl ?_
                    refine WL.passU (by decide) rfl rfl ?_
                    refine WL.passU (by decide) rfl rfl ?_
                    refine WL.pass (by decide) rfl rfl rfl ?_
                    refine WL.pass (by decide) rfl rfl rfl ?_
                    refine WL.passU (by decide) rfl rfl ?_
                    refine WL.passU (by decide) rfl rfl ?_
                    refine WL.passU (by decide) rfl rfl ?_
                    refine WL.passU (by decide) rfl rfl ?_
                    refine WL.pass (by decide) rfl rfl rfl ?_
                    refine WL.op (by decide) (R.pickF rfl rfl) ?_
                    refine WL.next ?_
                    refine CW.condF rfl ?_
                    refine CW.skip ?_
                    refine EW.inNormal ?_
                    refine EW.next ?_
                    refine CW.region ?_
                    refine WL.op (by decide) (R.add rfl rfl (by omega)) ?_
                    refine WL.op (by decide) (R.move rfl) ?_
                    refine WL.nil ?_
                    exact EW.roundK [0, 27, 28] (m - 1) (by omega) ⟨rfl, j + 1, _, by omega, by omega, rfl, okc_step hK hc (by simp [okc, -UInt8.toNat_or]; omega)⟩
              · skip
                refine WL.op (by decide) (R.move rfl) ?_
                refine WL.pass (by decide) rfl rfl rfl ?_
                refine WL.pass (by decide) rfl rfl rfl ?_
                refine WL.pass (by decide) rfl rfl rfl ?_
                refine WL.pass (by decide) rfl rfl rfl ?_
                refine WL.op (by decide) (R.pickF rfl rfl) ?_
                refine WL.op (by decide) (R.assign rfl) ?_
                refine WL.next ?_
                refine CW.rseq ?_
                refine WL.op (by decide) (R.move rfl) ?_
                refine WL.op (by decide) (R.not rfl) ?_
                refine WL.op (by decide) (R.move rfl) ?_
                refine WL.gop (by decide) rfl rfl rfl (R.move rfl) ?_
                refine WL.gop (by decide) rfl rfl rfl (R.move rfl) ?_
                refine WL.gop (by decide) rfl rfl rfl (R.indexS rfl rfl rfl hc) ?_
                refine WL.gsplit _ (by decide) rfl rfl rfl (R.neqD rfl rfl) (fun h13 => ?_) (fun h13 => ?_)
                · skip
                  refine WL.op (by decide) (R.pickT rfl rfl) ?_
                  refine WL.op (by decide) (R.move rfl) ?_
                  refine WL.gop (by decide) rfl rfl rfl (R.move rfl) ?_
                  refine WL.gop (by decide) rfl rfl rfl (R.move rfl) ?_
                  refine WL.gop (by decide) rfl rfl rfl (R.indexS rfl rfl rfl hc) ?_
                  refine WL.gsplit _ (by decide) rfl rfl rfl (R.neqD rfl rfl) (fun h14 => ?_) (fun h14 => ?_)
                  · skip
                    refine WL.op (by decide) (R.pickT rfl rfl) ?_
                    refine WL.op (by decide) (R.move rfl) ?_
                    refine WL.gop (by decide) rfl rfl rfl (R.move rfl) ?_
                    refine WL.gsplit _ (by decide) rfl rfl rfl (R.lssD rfl rfl) (fun h15 => ?_) (fun h15 => ?_)
                    · skip
                      refine WL.gop (by decide) rfl rfl rfl (R.move rfl) ?_
                      refine WL.pass (by decide) rfl rfl rfl ?_
                      refine WL.pass (by decide) rfl rfl rfl ?_
                      refine WL.gop (by decide) rfl rfl rfl (R.pickT rfl rfl) ?_
                      refine WL.gop (by decide) rfl rfl rfl (R.move rfl) ?_
                      refine WL.pass (by decide) rfl rfl rfl ?_
                      refine WL.pass (by decide) rfl rfl rfl ?_
                      refine WL.pass (by decide) rfl rfl rfl ?_
                      refine WL.pass (by decide) rfl rfl rfl ?_
                      refine WL.gop (by decide) rfl rfl rfl (R.pickT rfl rfl) ?_
                      refine WL.op (by decide) (R.pickT rfl rfl) ?_
                      refine WL.next ?_
                      refine CW.condT rfl ?_
                      refine CW.rseq ?_
                      refine WL.op (by decide) (R.assign rfl) ?_
                      refine WL.next ?_
                      refine CW.ret ?_
                      refine EW.inRet ?_
                      refine EW.thenRet ?_
                      refine EW.thenRet ?_
                      refine EW.inRet ?_
                      refine EW.thenRet ?_
                      refine EW.ret1 (.inl rfl) rfl rfl ⟨?_, rfl⟩
                      rw [rightL_false (.inr (.inr (.inr (.inr ⟨j, c, hc, by simp [okc, -UInt8.toNat_or]; omega⟩))))]
                    · skip
                      refine WL.gop (by decide) rfl rfl rfl (R.move rfl) ?_
                      refine WL.gop (by decide) rfl rfl rfl (R.move rfl) ?_
                      refine WL.gsplit _ (by decide) rfl rfl rfl (R.gtrD rfl rfl) (fun h16 => ?_) (fun h16 => ?_)
                      · skip
                        refine WL.gop (by decide) rfl rfl rfl (R.pickF rfl rfl) ?_
                        refine WL.gop (by decide) rfl rfl rfl (R.move rfl) ?_
                        refine WL.pass (by decide) rfl rfl rfl ?_
                        refine WL.pass (by decide) rfl rfl rfl ?_
                        refine WL.pass (by decide) rfl rfl rfl ?_
                        refine WL.pass (by decide) rfl rfl rfl ?_
                        refine WL.gop (by decide) rfl rfl rfl (R.pickT rfl rfl) ?_
                        refine WL.op (by decide) (R.pickT rfl rfl) ?_
                        refine WL.next ?_
                        refine CW.condT rfl ?_
                        refine CW.rseq ?_
                        refine WL.op (by decide) (R.assign rfl) ?_
                        refine WL.next ?_
                        refine CW.ret ?_
                        refine EW.inRet ?_
                        refine EW.thenRet ?_
                        refine EW.thenRet ?_
                        refine EW.inRet ?_
                        refine EW.thenRet ?_
                        refine EW.ret1 (.inl rfl) rfl rfl ⟨?_, rfl⟩
                        rw [rightL_false (.inr (.inr (.inr (.inr ⟨j, c, hc, by simp [okc, -UInt8.toNat_or]; omega⟩))))]
                      · skip
                        refine WL.gop (by decide) rfl rfl rfl (R.pickF rfl rfl) ?_
                        refine WL.gop (by decide) rfl rfl rfl (R.move rfl) ?_
                        refine WL.gop (by decide) rfl rfl rfl (R.move rfl) ?_
                        refine WL.gop (by decide) rfl rfl rfl (R.move rfl) ?_
                        refine WL.gop (by decide) rfl rfl rfl (R.indexS rfl rfl rfl hc) ?_
                        refine WL.gsplit _ (by decide) rfl rfl rfl (R.lssD rfl rfl) (fun h17 => ?_) (fun h17 => ?_)
                        · skip
                          refine WL.gop (by decide) rfl rfl rfl (R.pickF rfl rfl) ?_
                          refine WL.op (by decide) (R.pickT rfl rfl) ?_
                          refine WL.next ?_
                          refine CW.condT rfl ?_
                          refine CW.rseq ?_
                          refine WL.op (by decide) (R.assign rfl) ?_
                          refine WL.next ?_
                          refine CW.ret ?_
                          refine EW.inRet ?_
                          refine EW.thenRet ?_
                          refine EW.thenRet ?_
                          refine EW.inRet ?_
                          refine EW.thenRet ?_
                          refine EW.ret1 (.inl rfl) rfl rfl ⟨?_, rfl⟩
                          rw [rightL_false (.inr (.inr (.inr (.inr ⟨j, c, hc, by simp [okc, -UInt8.toNat_or]; omega⟩))))]
                        · skip
                          refine WL.gop (by decide) rfl rfl rfl (R.pickF rfl rfl) ?_
                          refine WL.op (by decide) (R.pickT rfl rfl) ?_
                          refine WL.next ?_
                          refine CW.condF rfl ?_
                          refine CW.skip ?_
                          refine EW.inNormal ?_
                          refine EW.next ?_
                          refine CW.region ?_
                          refine WL.op (by decide) (R.add rfl rfl (by omega)) ?_
                          refine WL.op (by decide) (R.move rfl) ?_
                          refine WL.nil ?_
                          exact EW.roundK [0, 27, 28] (m - 1) (by omega) ⟨rfl, j + 1, _, by omega, by omega, rfl, okc_step hK hc (by simp [okc, -UInt8.toNat_or]; omega)⟩
                  · skip
                    refine WL.op (by decide) (R.pickT rfl rfl) ?_
                    refine WL.op (by decide) (R.move rfl) ?_
                    refine WL.pass (by decide) rfl rfl rfl ?_
                    refine WL.pass (by decide) rfl rfl rfl ?_
                    refine WL.pass (by decide) rfl rfl rfl ?_
                    refine WL.passU (by decide) rfl rfl ?_
                    refine WL.passU (by decide) rfl rfl ?_
                    refine WL.pass (by decide) rfl rfl rfl ?_
                    refine WL.pass (by decide) rfl rfl rfl ?_
                    refine WL.passU (by decide) rfl rfl ?_
                    refine WL.passU (by decide) rfl rfl ?_
                    refine WL.passU (by decide) rfl rfl ?_
                    refine WL.passU (by decide) rfl rfl ?_
                    refine WL.pass (by decide) rfl rfl rfl ?_
                    refine WL.op (by decide) (R.pickF rfl rfl) ?_
                    refine WL.next ?_
                    refine CW.condF rfl ?_
                    refine CW.skip ?_
                    refine EW.inNormal ?_
                    refine EW.next ?_
                    refine CW.region ?_
                    refine WL.op (by decide) (R.add rfl rfl (by omega)) ?_
                    refine WL.op (by decide) (R.move rfl) ?_
                    refine WL.nil ?_
                    exact EW.roundK [0, 27, 28] (m - 1) (by omega) ⟨rfl, j + 1, _, by omega, by omega, rfl, okc_step hK hc (by simp [okc, -UInt8.toNat_or]; omega)⟩
                · skip
                  refine WL.op (by decide) (R.pickT rfl rfl) ?_
                  refine WL.op (by decide) (R.move rfl) ?_
                  refine WL.pass (by decide) rfl rfl rfl ?_
                  refine WL.pass (by decide) rfl rfl rfl ?_
                  refine WL.pass (by decide) rfl rfl rfl ?_
                  refine WL.pass (by decide) rfl rfl rfl ?_
                  refine WL.op (by decide) (R.pickF rfl rfl) ?_
                  refine WL.op (by decide) (R.move rfl) ?_
                  refine WL.pass (by decide) rfl rfl rfl ?_
                  refine WL.pass (by decide) rfl rfl rfl ?_
                  refine WL.pass (by decide) rfl rfl rfl ?_
                  refine WL.passU (by decide) rfl rfl ?_
                  refine WL.passU (by decide) rfl rfl ?_
                  refine WL.pass (by decide) rfl rfl rfl ?_
                  refine WL.pass (by decide) rfl rfl rfl ?_
                  refine WL.passU (by decide) rfl rfl ?_
                  refine WL.passU (by decide) rfl rfl ?_
                  refine WL.passU (by decide) rfl rfl ?_
                  refine WL.passU (by decide) rfl rfl ?_
                  refine WL.pass (by decide) rfl rfl rfl ?_
                  refine WL.op (by decide) (R.pickF rfl rfl) ?_
                  refine WL.next ?_
                  refine CW.condF rfl ?_
                  refine CW.skip ?_
                  refine EW.inNormal ?_
                  refine EW.next ?_
                  refine CW.region ?_
                  refine WL.op (by decide) (R.add rfl rfl (by omega)) ?_
                  refine WL.op (by decide) (R.move rfl) ?_
                  refine WL.nil ?_
                  exact EW.roundK [0, 27, 28] (m - 1) (by omega) ⟨rfl, j + 1, _, by omega, by omega, rfl, okc_step hK hc (by simp [okc, -UInt8.toNat_or]; omega)⟩
            · skip
              refine WL.next ?_
              refine CW.seq ?_
              refine CW.condF rfl ?_
              refine CW.exit ?_
              refine EW.thenExit ?_
              refine EW.thenExit ?_
              refine EW.inHere ?_
              refine EW.next ?_
              refine CW.rseq ?_
              refine WL.op (by decide) (R.assign rfl) ?_
              refine WL.next ?_
              refine CW.ret ?_
              refine EW.ret1 (.inl rfl) rfl rfl ⟨?_, rfl⟩
              rw [rightL_true h1 (by omega) (fun e => h3 (by rw [hc0] at e; obtain rfl := Option.some.inj e; rfl)) (fun e => h4 (by rw [hcl] at e; obtain rfl := Option.some.inj e; rfl)) (fun k c hk => hK k c (by have := (List.getElem?_eq_some_iff.1 hk).1; omega) hk)]
end Go.Proofs.YthcpjcgjmdfpjaaDoor

namespace Go.Proofs.YthcpjcgjmdfpjaaDoor
open Go Go.RowKit
set_option maxRecDepth 100000

theorem names_any (s : List UInt8) (w : World) (hl : s.length ≤ 1099511627776) :
    Calls Tryd.prog 50 #[sv s] w fun e w' => e = .returned (.bool (namesL s)) ∧ Chg (fun _ => False) w w' := by
  refine calls_cw (args := [sv s]) Tryd.func50 rfl rfl ?_
  show CW _ _ _ 25 [(0, sv s)] w
  refine CW.rseq ?_
  refine WL.op (by decide) (R.assign rfl) ?_
  refine WL.next ?_
  refine CW.seq ?_
  refine CW.rseq ?_
  refine WL.op (by decide) (R.move rfl) ?_
  refine WL.op (by decide) (R.lenS rfl rfl) ?_
  refine WL.gtrS (by decide) rfl rfl (fun h1 => ?_) (fun h1 => ?_)
  · skip
    refine WL.op (by decide) (R.move rfl) ?_
    refine WL.pass (by decide) rfl rfl rfl ?_
    refine WL.pass (by decide) rfl rfl rfl ?_
    refine WL.pass (by decide) rfl rfl rfl ?_
    refine WL.pass (by decide) rfl rfl rfl ?_
    refine WL.op (by decide) (R.pickT rfl rfl) ?_
    refine WL.next ?_
    refine CW.condT rfl ?_
    refine CW.rseq ?_
    refine WL.op (by decide) (R.assign rfl) ?_
    refine WL.next ?_
    refine CW.ret ?_
    refine EW.thenRet ?_
    refine EW.ret1 (.inl rfl) rfl rfl ⟨?_, Chg.refl _ _⟩
    rw [namesL_false (.inl (by omega))]
  · skip
    refine WL.op (by decide) (R.move rfl) ?_
    refine WL.gop (by decide) rfl rfl rfl (R.move rfl) ?_
    refine WL.geff rfl rfl rfl (OP.call (by decide) Tryd.func38 (by kernel_rfl) (by kernel_rfl) rfl (lower_any s _ hl) ?_)
    rintro e w1 ⟨rfl, hc1⟩
    refine ⟨_, rfl, ?_⟩
    refine WL.gop (by decide) rfl rfl rfl (R.move rfl) ?_
    refine WL.gsplit _ (by decide) rfl rfl rfl (R.neqStr rfl rfl) (fun h2 => ?_) (fun h2 => ?_)
    · skip
      refine WL.op (by decide) (R.pickF rfl rfl) ?_
      refine WL.next ?_
      refine CW.condT rfl ?_
      refine CW.rseq ?_
      refine WL.op (by decide) (R.assign rfl) ?_
      refine WL.next ?_
      refine CW.ret ?_
      refine EW.thenRet ?_
      refine EW.ret1 (.inl rfl) rfl rfl ⟨?_, hc1⟩
      rw [namesL_false (.inr (.inl h2))]
    · skip
      refine WL.op (by decide) (R.pickF rfl rfl) ?_
      refine WL.next ?_
      refine CW.condF rfl ?_
      refine CW.skip ?_
      refine EW.next ?_
      refine CW.seq ?_
      refine CW.rseq ?_
      refine WL.op (by decide) (R.move rfl) ?_
      refine WL.eff rfl (OP.call (by decide) Tryd.func39 (by kernel_rfl) (by kernel_rfl) rfl (split_any s _ hl) ?_)
      rintro e w2 ⟨v, rfl, hB, hc2⟩
      refine ⟨_, rfl, ?_⟩
      have hC : Chg (fun _ => False) w w2 := hc1.trans hc2
      rcases hB.open with ⟨_, h0⟩ | ⟨g, cap, rfl, _, _, _, hcell⟩
      · exact absurd h0 (splitL_ne s)
      have hnl := splitL_length s
      refine WL.op (by decide) (R.lenSlice rfl Tryd.underlying80 rfl) ?_
      refine WL.op (by decide) (R.move rfl) ?_
      refine WL.next ?_
      refine CW.block ?_
      refine CW.loopK [0, 15, 16, 17] (fun m l wr => wr = w2 ∧ ∃ (j : Nat) (i : Int), j + m = (splitL s).length ∧ i = (j : Int) ∧ l = [(0, sv s), (15, .slice (some ⟨g, 0, none⟩) (splitL s).length cap), (16, .int .i64 (splitL s).length), (17, .int .i64 i)] ∧ ∀ (k : Nat) (x : List UInt8), k < j → (splitL s)[k]? = some x → rightL x = true) ((splitL s).length) ?_ ?_
      · exact ⟨rfl, 0, _, by omega, rfl, rfl, fun k x hk => by omega⟩
      · rintro m l wr ⟨rfl, j, i, hm, rfl, rfl, hK⟩
        refine CW.rseq ?_
        refine WL.lssS (by decide) rfl rfl (fun h3 => ?_) (fun h3 => ?_)
        · skip
          refine WL.next ?_
          refine CW.seq ?_
          refine CW.condT rfl ?_
          refine CW.skip ?_
          refine EW.next ?_
          refine CW.seq ?_
          refine CW.block ?_
          refine CW.rseq ?_
          have hlt : j < (splitL s).length := by omega
          obtain ⟨x, hx⟩ : ∃ x, (splitL s)[j]? = some x := ⟨(splitL s)[j], List.getElem?_eq_getElem hlt⟩
          have hxl := splitL_label hx
          refine WL.op (by decide) (R.indexAddr1 Tryd.underlying80 sz9 rfl rfl rfl hlt) ?_
          refine WL.op (by decide) (R.load Tryd.underlying9 rfl rfl (by simpa using hcell j x hx)) ?_
          refine WL.op (by decide) (R.assign rfl) ?_
          refine WL.next ?_
          refine CW.rseq ?_
          refine WL.op (by decide) (R.move rfl) ?_
          refine WL.eff rfl (OP.call (by decide) Tryd.func40 (by kernel_rfl) (by kernel_rfl) rfl (right_any x _ (by omega)) ?_)
          rintro e _ ⟨rfl, rfl⟩
          refine ⟨_, rfl, ?_⟩
          cases hr : rightL x
          · skip
            refine WL.op (by decide) (R.not rfl) ?_
            refine WL.next ?_
            refine CW.condT rfl ?_
            refine CW.rseq ?_
            refine WL.op (by decide) (R.assign rfl) ?_
            refine WL.next ?_
            refine CW.ret ?_
            refine EW.inRet ?_
            refine EW.thenRet ?_
            refine EW.thenRet ?_
            refine EW.inRet ?_
            refine EW.thenRet ?_
            refine EW.ret1 (.inl rfl) rfl rfl ⟨?_, hC⟩
            rw [namesL_false (.inr (.inr ⟨j, x, hx, hr⟩))]
          · skip
            refine WL.op (by decide) (R.not rfl) ?_
            refine WL.next ?_
            refine CW.condF rfl ?_
            refine CW.skip ?_
            refine EW.inNormal ?_
            refine EW.next ?_
            refine CW.region ?_
            refine WL.op (by decide) (R.add rfl rfl (by omega)) ?_
            refine WL.op (by decide) (R.move rfl) ?_
            refine WL.nil ?_
            exact EW.roundK [0, 15, 16, 17] (m - 1) (by omega) ⟨rfl, j + 1, _, by omega, by omega, rfl, all_step hK hx hr⟩
        · skip
          refine WL.next ?_
          refine CW.seq ?_
          refine CW.condF rfl ?_
          refine CW.exit ?_
          refine EW.thenExit ?_
          refine EW.thenExit ?_
          refine EW.inHere ?_
          refine EW.next ?_
          refine CW.rseq ?_
          refine WL.op (by decide) (R.assign rfl) ?_
          refine WL.next ?_
          refine CW.ret ?_
          refine EW.ret1 (.inl rfl) rfl rfl ⟨?_, hC⟩
          rw [namesL_true (by omega) (Classical.not_not.1 h2) (fun k x hk => hK k x (by have := (List.getElem?_eq_some_iff.1 hk).1; omega) hk)]
end Go.Proofs.YthcpjcgjmdfpjaaDoor

namespace Go.Proofs.YthcpjcgjmdfpjaaDoor
open Go Go.RowKit
set_option maxRecDepth 100000

theorem join_any (A : Option Addr) (cap : Nat) (ls : List (List UInt8)) (w : World) (hA : ∀ (j : Nat) (s : List UInt8), ls[j]? = some s → ∃ g o, A = some ⟨g, o, none⟩ ∧ w.cell? ⟨g, o + j, none⟩ = some (sv s)) (hl : (joinL ls).length ≤ 1099511627776) (hn : ls.length ≤ 1099511627776) :
    Calls Tryd.prog 52 #[.slice A ls.length cap] w fun e w' => e = .returned (sv (joinL ls)) ∧ w = w' := by
  refine calls_cw (args := [.slice A ls.length cap]) Tryd.func52 rfl rfl ?_
  show CW _ _ _ 22 [(0, .slice A ls.length cap)] w
  refine CW.rseq ?_
  refine WL.op (by decide) (R.assign rfl) ?_
  refine WL.next ?_
  refine CW.rseq ?_
  refine WL.op (by decide) (R.assign rfl) ?_
  refine WL.next ?_
  refine CW.seq ?_
  refine CW.rseq ?_
  refine WL.op (by decide) (R.move rfl) ?_
  refine WL.op (by decide) (R.lenSlice rfl Tryd.underlying80 rfl) ?_
  refine WL.op (by decide) (R.move rfl) ?_
  refine WL.next ?_
  refine CW.block ?_
  refine CW.loopK [3, 6, 7, 8] (fun m l wr => wr = w ∧ ∃ (j : Nat) (i : Int) (acc : List UInt8), j + m = ls.length ∧ i = (j : Int) ∧ acc = joinL (ls.take j) ∧ l = [(3, sv acc), (6, .slice A ls.length cap), (7, .int .i64 ls.length), (8, .int .i64 i)]) (ls.length) ?_ ?_
  · exact ⟨rfl, 0, _, [], by omega, rfl, by simp [joinL], rfl⟩
  · rintro m l wr ⟨rfl, j, i, acc, hm, rfl, rfl, rfl⟩
    refine CW.rseq ?_
    refine WL.lssS (by decide) rfl rfl (fun h1 => ?_) (fun h1 => ?_)
    · skip
      refine WL.next ?_
      refine CW.seq ?_
      refine CW.condT rfl ?_
      refine CW.skip ?_
      refine EW.next ?_
      refine CW.seq ?_
      refine CW.block ?_
      refine CW.rseq ?_
      have hlt : j < ls.length := by omega
      obtain ⟨x, hx⟩ : ∃ x, ls[j]? = some x := ⟨ls[j], List.getElem?_eq_getElem hlt⟩
      obtain ⟨g, o, rfl, hcell⟩ := hA j x hx
      have ht := joinL_take hx
      have hle := joinL_take_le ls (j + 1)
      have HT := Lib.hid ht
      rw [ht] at hle
      clear ht
      refine WL.op (by decide) (R.move rfl) ?_
      refine WL.op (by decide) (R.indexAddr1 Tryd.underlying80 sz9 rfl rfl rfl (by omega)) ?_
      refine WL.op (by decide) (R.load Tryd.underlying9 rfl rfl (by rw [Nat.mul_one]; exact hcell)) ?_
      refine WL.op (by decide) (R.assign rfl) ?_
      refine WL.op (by decide) (R.assign rfl) ?_
      refine WL.next ?_
      refine CW.seq ?_
      refine CW.rseq ?_
      refine WL.op (by decide) (R.move rfl) ?_
      refine WL.gtrS (by decide) rfl rfl (fun h2 => ?_) (fun h2 => ?_)
      · skip
        refine WL.next ?_
        refine CW.condT rfl ?_
        refine CW.region ?_
        refine WL.op (by decide) (R.move rfl) ?_
        refine WL.op (by decide) (R.addStr (b := [46]) rfl rfl (by rw [if_neg (by omega)] at hle; simp at hle ⊢; omega)) ?_
        refine WL.op (by decide) (R.assign rfl) ?_
        refine WL.nil ?_
        refine EW.next ?_
        refine CW.region ?_
        refine WL.op (by decide) (R.move rfl) ?_
        refine WL.op (by decide) (R.move rfl) ?_
        refine WL.op (by decide) (R.addStr rfl rfl (by rw [if_neg (by omega)] at hle; simp at hle ⊢; omega)) ?_
        refine WL.op (by decide) (R.assign rfl) ?_
        refine WL.nil ?_
        refine EW.inNormal ?_
        refine EW.next ?_
        refine CW.region ?_
        refine WL.op (by decide) (R.add rfl rfl (by omega)) ?_
        refine WL.op (by decide) (R.move rfl) ?_
        refine WL.nil ?_
        refine EW.roundK [3, 6, 7, 8] (m - 1) (by omega) ⟨rfl, j + 1, _, _, by omega, by omega, ?_, rfl⟩
        rw [HT.out, if_neg (by omega)]; simp
      · skip
        refine WL.next ?_
        refine CW.condF rfl ?_
        refine CW.skip ?_
        refine EW.next ?_
        refine CW.region ?_
        refine WL.op (by decide) (R.move rfl) ?_
        refine WL.op (by decide) (R.move rfl) ?_
        refine WL.op (by decide) (R.addStr rfl rfl (by rw [if_pos (by omega)] at hle; (obtain rfl : j = 0 := by omega); simp [joinL] at hle ⊢; omega)) ?_
        refine WL.op (by decide) (R.assign rfl) ?_
        refine WL.nil ?_
        refine EW.inNormal ?_
        refine EW.next ?_
        refine CW.region ?_
        refine WL.op (by decide) (R.add rfl rfl (by omega)) ?_
        refine WL.op (by decide) (R.move rfl) ?_
        refine WL.nil ?_
        refine EW.roundK [3, 6, 7, 8] (m - 1) (by omega) ⟨rfl, j + 1, _, _, by omega, by omega, ?_, rfl⟩
        obtain rfl : j = 0 := by omega
        rw [HT.out, if_pos rfl]; simp [joinL]
    · skip
      refine WL.next ?_
      refine CW.seq ?_
      refine CW.condF rfl ?_
      refine CW.exit ?_
      refine EW.thenExit ?_
      refine EW.thenExit ?_
      refine EW.inHere ?_
      refine EW.next ?_
      refine CW.rseq ?_
      refine WL.op (by decide) (R.move rfl) ?_
      refine WL.op (by decide) (R.assign rfl) ?_
      refine WL.next ?_
      refine CW.ret ?_
      refine EW.ret1 (.inl rfl) rfl rfl ⟨?_, rfl⟩
      rw [List.take_of_length_le (by omega)]
end Go.Proofs.YthcpjcgjmdfpjaaDoor

namespace Go.Proofs.YthcpjcgjmdfpjaaDoor
open Go Go.RowKit
set_option maxRecDepth 100000

/-- The reader's block. -/
abbrev RSt (w : World) (rb : Nat) (A : Option Addr) (m c : Nat) (at_ : Nat) (bad : Bool) : Prop :=
  w.heap[rb]? = some (.cells #[.slice A m c, .int .i64 (at_ : Int), .bool bad] 100 (0, 0))
/-- The bytes that it reads. -/
structure Src (w : World) (A : Option Addr) (m c : Nat) (bs : List UInt8) : Prop where
  len : bs.length = m
  cap : m ≤ c
  cells : m ≠ 0 → ∃ g o, A = some ⟨g, o, none⟩ ∧ ∀ (j : Nat) (b : UInt8), bs[j]? = some b → w.cell? ⟨g, o + j, none⟩ = some (u8v b)
theorem cell_chg {w w' : World} {S : Nat → Prop} (hc : Chg S w w') {g o : Nat} {v : Value} (hv : w.cell? ⟨g, o, none⟩ = some v) (hn : ¬ S g) : w'.cell? ⟨g, o, none⟩ = some v := by
  have hlt := World.block_lt_of_cell? w ⟨g, o, none⟩ hv
  have := hc.block g hlt hn
  simp only [World.cell?, this] at hv ⊢
  exact hv
theorem Src.kept {w w' : World} {A : Option Addr} {m c : Nat} {bs : List UInt8} {S : Nat → Prop} (h : Src w A m c bs) (hc : Chg S w w') (hn : ∀ g o, A = some ⟨g, o, none⟩ → ¬ S g) : Src w' A m c bs := by
  refine ⟨h.len, h.cap, fun h0 => ?_⟩
  obtain ⟨g, o, hA, hcell⟩ := h.cells h0
  exact ⟨g, o, hA, fun j b hj => cell_chg hc (hcell j b hj) (hn g o hA)⟩

theorem R.sliceIn {l : Env} {w : World} {x y z : Operand} {t elem g ofs m cap lo hi : Nat} {k1 k2 : IntKind} {a b : Int} (ht : Tryd.prog.underlying t = some (.slice elem)) (hs : (Tryd.prog.info? elem).map (·.size) = some 1) (hx : ev l x = some (.slice (some ⟨g, ofs, none⟩) m cap)) (ha : ev l y = some (.int k1 a)) (hb : ev l z = some (.int k2 b))
    (hea : a = (lo : Int)) (heb : b = (hi : Int)) (h1 : lo < hi) (h2 : hi ≤ cap) :
    Runs Tryd.prog l (.slice t x (some y) (some z) none) w (.slice (some ⟨g, ofs + lo, none⟩) (hi - lo) (cap - lo)) w := by
  have := R.sliceSl (w := w) ht hs hx ha hb hea heb (Nat.le_of_lt h1) h2
  rwa [if_neg (show ¬ cap = lo by omega)] at this

/-- A number of bytes, the highest first. -/
def beNat (l : List UInt8) : Nat := l.foldl (fun x c => x * 256 + c.toNat) 0
theorem beNat_snoc (l : List UInt8) (c : UInt8) : beNat (l ++ [c]) = beNat l * 256 + c.toNat := by simp [beNat, List.foldl_append]
theorem beNat_lt (l : List UInt8) : beNat l < 256 ^ l.length := by
  have key : ∀ (n : Nat) (l : List UInt8), l.length = n → beNat l < 256 ^ n := by
    intro n
    induction n with
    | zero => intro l h; have := List.eq_nil_of_length_eq_zero h; subst this; simp [beNat]
    | succ n ih =>
      intro l h
      obtain ⟨l', c, rfl⟩ : ∃ l' c, l = l' ++ [c] := by
        have hne : l ≠ [] := by intro e; subst e; simp at h
        exact ⟨l.dropLast, l.getLast hne, (List.dropLast_concat_getLast hne).symm⟩
      rw [beNat_snoc]
      have h1 := ih l' (by simpa using h)
      have h2 := c.toNat_lt
      rw [Nat.pow_succ]; omega
  exact key l.length l rfl
theorem beNat_take {l : List UInt8} {j : Nat} {c : UInt8} (h : l[j]? = some c) : beNat (l.take (j + 1)) = beNat (l.take j) * 256 + c.toNat := by
  have hlt := (List.getElem?_eq_some_iff.1 h).1
  have hv := (List.getElem?_eq_some_iff.1 h).2
  rw [List.take_succ_eq_append_getElem hlt, hv, beNat_snoc]
theorem beNat_take_lt (l : List UInt8) {j : Nat} (h : j ≤ 4) : beNat (l.take j) < 4294967296 := by
  have h1 := beNat_lt (l.take j)
  have h2 : (l.take j).length ≤ 4 := by rw [List.length_take]; omega
  exact Nat.lt_of_lt_of_le h1 (Nat.pow_le_pow_right (by decide) h2)

/-- What a number read at a place is, and where the reader stands then. -/
def numR (bs : List UInt8) (n at_ : Nat) (bad : Bool) : Nat × Nat × Bool :=
  if bad = true ∨ bs.length < at_ + n then (0, at_, true) else (beNat ((bs.drop at_).take n), at_ + n, false)

theorem binOp_or256 (t : TypeId) (a : Nat) (c : UInt8) (h : a < 36028797018963968) : binOp .or t (.int .i64 ((a : Int) * 2 ^ (8 : Int).toNat)) (.int .i64 (c.toNat : Int)) = pure (.int .i64 ((a * 256 + c.toNat : Nat) : Int)) := by
  have hc := c.toNat_lt
  simp only [binOp, Op.intBits, ne_eq, not_true, ite_false]
  have e1 : ((a : Int) * 2 ^ (8 : Int).toNat) = ((a * 256 : Nat) : Int) := by
    rw [show (8 : Int).toNat = 8 from rfl]; omega
  rw [e1]
  have hb : ∀ k : Nat, k < 18446744073709551616 → (BitVec.ofInt IntKind.i64.bits (k : Int)).toNat = k := by
    intro k hk
    show (BitVec.ofInt 64 (k : Int)).toNat = k
    simp; omega
  have e : (BitVec.ofInt IntKind.i64.bits ((a * 256 : Nat) : Int) ||| BitVec.ofInt IntKind.i64.bits (c.toNat : Int)).toNat = a * 256 + c.toNat := by
    rw [BitVec.toNat_or, hb _ (by omega), hb _ (by omega)]
    have := Nat.shiftLeft_add_eq_or_of_lt (show c.toNat < 2 ^ 8 by omega) a
    rw [Nat.shiftLeft_eq] at this
    rw [show a * 2 ^ 8 = a * 256 by omega] at this
    exact this.symm
  rw [e, IntWalk.i64_in _ (by omega)]
theorem R.or256 {l : Env} {w : World} {x y : Operand} {t ty : TypeId} {P : Program} {a : Nat} {c : UInt8} (hx : ev l x = some (.int .i64 ((a : Int) * 2 ^ (8 : Int).toNat))) (hy : ev l y = some (.int .i64 (c.toNat : Int))) (h : a < 36028797018963968) : Runs P l (.binOp .or t x y ty) w (.int .i64 ((a * 256 + c.toNat : Nat) : Int)) w :=
  R.bin hx hy (binOp_or256 t a c h)
end Go.Proofs.YthcpjcgjmdfpjaaDoor

namespace Go.Proofs.YthcpjcgjmdfpjaaDoor
open Go Go.RowKit
set_option maxRecDepth 100000

theorem run_part1 {P : Program} {t : TypeId} {d : TypeDesc} (ht : P.underlying t = some d) (hd : isAggD d = false) {cs : Array Value} {i : Nat} {v : Value} (hv : cs[i]? = some v) (w : World) : (part t cs i).run P w = .ok v w := by
  have hag : (isAgg t).run P w = .ok false w := by
    simp only [isAgg, Sem.run_bind, run_underlying ht, Result.andThen_ok]
    cases d <;> first | rfl | cases hd
  simp [part, hag, hv]

theorem run_equalIn_bytes {P : Program} (d : Nat) {t e n : TypeId} (ht : P.underlying t = some (.array n e)) (he : P.underlying e = some (.int .u8)) (hs : (P.info? e).map (·.size) = some 1) (xs ys : List UInt8) (hx : xs.length = n) (hy : ys.length = n) (w : World) :
    (Op.equalIn (d + 2) t (.agg (xs.map u8v).toArray) (.agg (ys.map u8v).toArray)).run P w = .ok (decide (xs = ys)) w := by
  obtain ⟨i, hi, hz⟩ := Option.map_eq_some_iff.1 hs
  have hsz : (sizeOf e).run P w = .ok 1 w := by simp [sizeOf, typeInfo, hi, hz]
  rw [show d + 2 = (d + 1) + 1 from rfl, Op.equalIn]
  simp only [Sem.run_bind, run_underlying ht, Result.andThen_ok, hsz, Std.Legacy.Range.forIn_eq_forIn_range', Std.Legacy.Range.size, Nat.sub_zero, Nat.add_sub_cancel, Nat.div_one]
  have key : ∀ (k j : Nat), j + k = n → xs.take j = ys.take j →
      (forIn (List.range' j k) ((none, ()) : Option Bool × Unit) (fun i r => do
        let a ← part e (xs.map u8v).toArray (i * 1)
        let b ← part e (ys.map u8v).toArray (i * 1)
        let q ← Op.equalIn (d + 1) e a b
        if (!q) = true then pure (ForInStep.done (some false, ())) else pure (ForInStep.yield (none, ())) : Nat → Option Bool × Unit → Sem (ForInStep (Option Bool × Unit)))).run P w = .ok (if xs = ys then (none, ()) else (some false, ())) w := by
    intro k
    induction k with
    | zero =>
      intro j hj ht
      have : xs = ys := by
        rw [List.take_of_length_le (by omega), List.take_of_length_le (by omega)] at ht
        exact ht
      simp [this]
    | succ k ih =>
      intro j hj htk
      have hjx : j < xs.length := by omega
      have hjy : j < ys.length := by omega
      rw [List.range'_succ, List.forIn_cons]
      have h1 : (part e (xs.map u8v).toArray (j * 1)).run P w = .ok (u8v xs[j]) w := run_part1 he rfl (by simp [hjx]) w
      have h2 : (part e (ys.map u8v).toArray (j * 1)).run P w = .ok (u8v ys[j]) w := run_part1 he rfl (by simp [hjy]) w
      have h3 : (Op.equalIn (d + 1) e (u8v xs[j]) (u8v ys[j])).run P w = .ok (decide (xs[j] = ys[j])) w := by
        unfold u8v
        rw [run_equalIn_int w d e .u8 .u8 _ _ he]
        congr 1
        by_cases hq : xs[j] = ys[j]
        · simp [hq]
        · have : ¬ ((xs[j].toNat : Int) = (ys[j].toNat : Int)) := fun h => hq (UInt8.toNat_inj.1 (by omega))
          simp [hq, this]
      simp only [Sem.run_bind, h1, h2, h3, Result.andThen_ok]
      by_cases hq : xs[j] = ys[j]
      · simp only [hq, decide_true, Bool.not_true, Bool.false_eq_true, if_false, Sem.run_pure, Result.andThen_ok]
        refine ih (j + 1) (by omega) ?_
        rw [List.take_succ_eq_append_getElem hjx, List.take_succ_eq_append_getElem hjy, htk, hq]
      · have hne : ¬ xs = ys := fun h => hq (by subst h; rfl)
        simp [hq, hne, Sem.run_pure]
  have hk := key n 0 (by omega) (by simp)
  rw [hk]
  by_cases h : xs = ys <;> simp [h, Sem.run_pure]

theorem eqlArr {P : Program} {t e n : TypeId} (ht : P.underlying t = some (.array n e)) (he : P.underlying e = some (.int .u8)) (hs : (P.info? e).map (·.size) = some 1) (xs ys : List UInt8) (hx : xs.length = n) (hy : ys.length = n) (w : World) :
    (binOp .eql t (.agg (xs.map u8v).toArray) (.agg (ys.map u8v).toArray)).run P w = .ok (.bool (decide (xs = ys))) w := by
  rw [run_eql_struct, run_equalIn_bytes 9998 ht he hs xs ys hx hy]; rfl
theorem neqArr {P : Program} {t e n : TypeId} (ht : P.underlying t = some (.array n e)) (he : P.underlying e = some (.int .u8)) (hs : (P.info? e).map (·.size) = some 1) (xs ys : List UInt8) (hx : xs.length = n) (hy : ys.length = n) (w : World) :
    (binOp .neq t (.agg (xs.map u8v).toArray) (.agg (ys.map u8v).toArray)).run P w = .ok (.bool (!decide (xs = ys))) w := by
  rw [run_neq_struct, run_equalIn_bytes 9998 ht he hs xs ys hx hy]; rfl

/-- An operation on two whole values. -/
theorem R.binAgg {P : Program} {l : Env} {w : World} {x y : Operand} {t ty : TypeId} {op : BinOp} {xs ys : Array Value} {v : Value} (hg : P.eqGuardType P.depth t = false) (hx : ev l x = some (.agg xs)) (hy : ev l y = some (.agg ys)) (h : (binOp op t (.agg xs) (.agg ys)).run P w = .ok v w) : Runs P l (.binOp op t x y ty) w v w := fun r _ _ _ _ _ he => by
  simp only [execOp, he x _ hx, he y _ hy, Sem.run_bind, run_eqGuard_agg w op t x y xs ys hg, Result.andThen_ok, h]
  rfl

/-- A record. -/
structure Rec where
  name : List UInt8
  type : Int
  ttl : Int
  addr : List UInt8
  text : List UInt8
  data : List UInt8
  deriving DecidableEq
/-- Its cells. -/
def Rec.cells (r : Rec) : List Value := sv r.name :: .int .i64 r.type :: .int .i64 r.ttl :: (r.addr.map u8v ++ [sv r.text, sv r.data])
def Rec.val (r : Rec) : Value := .agg r.cells.toArray
theorem Rec.length {r : Rec} (h : r.addr.length = 16) : r.cells.length = 21 := by simp [Rec.cells, h]
theorem Rec.at0 (r : Rec) : r.cells.toArray[0]? = some (sv r.name) := rfl
theorem Rec.at1 (r : Rec) : r.cells.toArray[1]? = some (.int .i64 r.type) := rfl
theorem Rec.at2 (r : Rec) : r.cells.toArray[2]? = some (.int .i64 r.ttl) := rfl
theorem Rec.at19 {r : Rec} (h : r.addr.length = 16) : r.cells.toArray[19]? = some (sv r.text) := by
  rw [List.getElem?_toArray]
  show (r.addr.map u8v ++ [sv r.text, sv r.data])[16]? = _
  rw [List.getElem?_append_right (by simp [h])]; simp [h]
theorem Rec.at20 {r : Rec} (h : r.addr.length = 16) : r.cells.toArray[20]? = some (sv r.data) := by
  rw [List.getElem?_toArray]
  show (r.addr.map u8v ++ [sv r.text, sv r.data])[17]? = _
  rw [List.getElem?_append_right (by simp [h])]; simp [h]
theorem Rec.atAddr {r : Rec} {j : Nat} {u : Value} (hj : (r.addr.map u8v)[j]? = some u) : r.cells.toArray[3 + j]? = some u := by
  have hlt := (List.getElem?_eq_some_iff.1 hj).1
  rw [Nat.add_comm, List.getElem?_toArray]
  show (r.addr.map u8v ++ [sv r.text, sv r.data])[j]? = _
  rw [List.getElem?_append_left hlt]; exact hj
theorem Rec.extractAddr {r : Rec} (h : r.addr.length = 16) : r.cells.toArray.extract 3 (3 + 16) = (r.addr.map u8v).toArray := by
  apply Array.ext'
  simp only [Array.toList_extract, Rec.cells, List.extract]
  show (r.addr.map u8v ++ [sv r.text, sv r.data]).take 16 = _
  rw [List.take_left' (by simp [h])]

theorem run_partAgg {P : Program} {t : TypeId} {d : TypeDesc} {s : Nat} (ht : P.underlying t = some d) (hd : isAggD d = true) (hs : (P.info? t).map (·.size) = some s) (cs : Array Value) (i : Nat) (w : World) : (part t cs i).run P w = .ok (.agg (cs.extract i (i + s))) w := by
  have hag : (isAgg t).run P w = .ok true w := by
    simp only [isAgg, Sem.run_bind, run_underlying ht, Result.andThen_ok]
    cases d <;> first | rfl | cases hd
  obtain ⟨f, hi, hz⟩ := Option.map_eq_some_iff.1 hs
  simp [part, hag, sizeOf, typeInfo, hi, hz]

theorem run_equalIn_str (d : Nat) (a b : List UInt8) (w : World) : (Op.equalIn (d + 1) 9 (sv a) (sv b)).run Tryd.prog w = .ok (decide (a = b)) w := by
  unfold sv
  rw [run_equalIn_string w d 9 _ _ Tryd.underlying9, ByteArray.toList_mk, ByteArray.toList_mk]
  congr 1 <;> (by_cases h : a = b <;> simp [h])
theorem run_equalIn_i64 (d : Nat) (a b : Int) (w : World) : (Op.equalIn (d + 1) 3 (.int .i64 a) (.int .i64 b)).run Tryd.prog w = .ok (decide (a = b)) w := by
  rw [run_equalIn_int w d 3 .i64 .i64 _ _ Tryd.underlying3]
  congr 1 <;> (by_cases h : a = b <;> simp [h])
theorem run_equalIn_addr (d : Nat) (a b : List UInt8) (ha : a.length = 16) (hb : b.length = 16) (w : World) : (Op.equalIn (d + 2) 27 (.agg (a.map u8v).toArray) (.agg (b.map u8v).toArray)).run Tryd.prog w = .ok (decide (a = b)) w :=
  run_equalIn_bytes d Tryd.underlying27 Tryd.underlying5 sz5 a b ha hb w

theorem eqFields_cons {P : Program} {d : Nat} {xs ys : Array Value} {f : Field} {fs : List Field} {va vb : Value} {c : Bool} {w : World} (hn : f.name ≠ "_") (ha : (part f.type xs f.offset).run P w = .ok va w) (hb : (part f.type ys f.offset).run P w = .ok vb w) (he : (Op.equalIn d f.type va vb).run P w = .ok c w) :
    (Op.eqFields d xs ys (f :: fs)).run P w = if c then (Op.eqFields d xs ys fs).run P w else .ok false w := by
  rw [Op.eqFields, if_pos hn]
  simp only [Sem.run_bind, ha, hb, he, Result.andThen_ok]
  cases c <;> rfl
theorem eqFields_nil {P : Program} {d : Nat} {xs ys : Array Value} {w : World} : (Op.eqFields d xs ys []).run P w = .ok true w := rfl

theorem run_equalIn_rec (d : Nat) (a b : Rec) (ha : a.addr.length = 16) (hb : b.addr.length = 16) (w : World) : (Op.equalIn (d + 3) 57 a.val b.val).run Tryd.prog w = .ok (decide (a = b)) w := by
  unfold Rec.val
  rw [run_equalIn_struct w (d + 2) 57 _ _ Tryd.underlying57 (by kernel_rfl)]
  have hf : (Tryd.prog.fieldsOf 57).toList = [{ name := "Name", type := 9, offset := 0, embedded := false, tag := "", pkgPath := "", byteOffset := 0 },
        { name := "Type", type := 3, offset := 1, embedded := false, tag := "", pkgPath := "", byteOffset := 16 },
        { name := "TTL", type := 3, offset := 2, embedded := false, tag := "", pkgPath := "", byteOffset := 24 },
        { name := "Addr", type := 27, offset := 3, embedded := false, tag := "", pkgPath := "", byteOffset := 32 },
        { name := "Text", type := 9, offset := 19, embedded := false, tag := "", pkgPath := "", byteOffset := 48 },
        { name := "Data", type := 9, offset := 20, embedded := false, tag := "", pkgPath := "", byteOffset := 64 }] := by kernel_rfl
  rw [hf]
  have p0 := fun (r : Rec) => run_part1 (P := Tryd.prog) Tryd.underlying9 rfl (Rec.at0 r) w
  have p1 := fun (r : Rec) => run_part1 (P := Tryd.prog) Tryd.underlying3 rfl (Rec.at1 r) w
  have p2 := fun (r : Rec) => run_part1 (P := Tryd.prog) Tryd.underlying3 rfl (Rec.at2 r) w
  have p3 := fun (r : Rec) (h : r.addr.length = 16) => (run_partAgg (P := Tryd.prog) Tryd.underlying27 rfl sz27 r.cells.toArray 3 w).trans (by rw [Rec.extractAddr h])
  have p4 := fun (r : Rec) (h : r.addr.length = 16) => run_part1 (P := Tryd.prog) Tryd.underlying9 rfl (Rec.at19 h) w
  have p5 := fun (r : Rec) (h : r.addr.length = 16) => run_part1 (P := Tryd.prog) Tryd.underlying9 rfl (Rec.at20 h) w
  have e1 := run_equalIn_str (d + 1)
  have e2 := run_equalIn_i64 (d + 1)
  have e3 := run_equalIn_addr d a.addr b.addr ha hb w
  have hab : decide (a = b) = (decide (a.name = b.name) && (decide (a.type = b.type) && (decide (a.ttl = b.ttl) && (decide (a.addr = b.addr) && (decide (a.text = b.text) && decide (a.data = b.data)))))) := by
    cases a; cases b; simp [Rec.mk.injEq]
  rw [hab]
  rw [eqFields_cons (f := ⟨ "Name", 9, 0, false, "", "", 0⟩) (by decide) (p0 a) (p0 b) (e1 a.name b.name w), eqFields_cons (f := ⟨ "Type", 3, 1, false, "", "", 16⟩) (by decide) (p1 a) (p1 b) (e2 a.type b.type w), eqFields_cons (f := ⟨ "TTL", 3, 2, false, "", "", 24⟩) (by decide) (p2 a) (p2 b) (e2 a.ttl b.ttl w), eqFields_cons (f := ⟨ "Addr", 27, 3, false, "", "", 32⟩) (by decide) (p3 a ha) (p3 b hb) e3, eqFields_cons (f := ⟨ "Text", 9, 19, false, "", "", 48⟩) (by decide) (p4 a ha) (p4 b hb) (e1 a.text b.text w), eqFields_cons (f := ⟨ "Data", 9, 20, false, "", "", 64⟩) (by decide) (p5 a ha) (p5 b hb) (e1 a.data b.data w), eqFields_nil]
  by_cases h1 : a.name = b.name <;> by_cases h2 : a.type = b.type <;> by_cases h3 : a.ttl = b.ttl <;> by_cases h4 : a.addr = b.addr <;> by_cases h5 : a.text = b.text <;> by_cases h6 : a.data = b.data <;> simp [h1, h2, h3, h4, h5, h6]
end Go.Proofs.YthcpjcgjmdfpjaaDoor

namespace Go.Proofs.YthcpjcgjmdfpjaaDoor
open Go Go.RowKit
set_option maxRecDepth 100000

def zero16 : List UInt8 := List.replicate 16 0
def mappedL : List UInt8 := [0, 0, 0, 0, 0, 0, 0, 0, 0, 0, 255, 255]
/-- The variable 'mapped' in memory. -/
def Glob (w : World) : Prop := ∀ (j : Nat) (u : Value), (mappedL.map u8v)[j]? = some u → w.cell? ⟨0, j, none⟩ = some u
theorem Glob.kept {w w' : World} {S : Nat → Prop} (h : Glob w) (hc : Chg S w w') (hn : ¬ S 0) : Glob w' := fun j u hj => cell_chg hc (h j u hj) hn

/-- May it be a record? -/
def rightR (r : Rec) : Bool := namesL r.name && decide (0 ≤ r.ttl) && decide (r.ttl ≤ 1048576) &&
  (if r.type = 1 then decide (r.text = []) && decide (r.data = []) && decide (r.addr.take 12 = mappedL)
   else if r.type = 28 then decide (r.text = []) && decide (r.data = [])
   else if r.type = 2 ∨ r.type = 5 ∨ r.type = 12 then decide (r.data = []) && decide (r.addr = zero16) && namesL r.text
   else decide (0 < r.type) && decide (r.type < 65536) && decide (r.text = []) && decide (r.addr = zero16) && decide (r.data.length ≤ 255))

theorem four {p q s : Prop} : ¬ p ∨ (p ∧ ¬ q) ∨ (p ∧ q ∧ ¬ s) ∨ (p ∧ q ∧ s) := by
  by_cases hp : p <;> by_cases hq : q <;> by_cases hs : s <;> simp [hp, hq, hs]

section
variable {l : Env} {w : World} {x y : Operand} {t ty e : TypeId} {v : Value}
theorem R.eqlStrC {P : Program} {a b : List UInt8} {c : Bool} (hx : ev l x = some (sv a)) (hy : ev l y = some (sv b)) (h : decide (a = b) = c) : Runs P l (.binOp .eql t x y ty) w (.bool c) w := by
  have := R.eqlStr (P := P) (w := w) (t := t) (ty := ty) hx hy
  rwa [h] at this
theorem R.eql108 {a b : List UInt8} {c : Bool} (ha : a.length = 12) (hb : b.length = 12) (hx : ev l x = some (.agg (a.map u8v).toArray)) (hy : ev l y = some (.agg (b.map u8v).toArray)) (h : decide (a = b) = c) : Runs Tryd.prog l (.binOp .eql 108 x y ty) w (.bool c) w := by
  subst h
  exact R.binAgg (by kernel_rfl) hx hy (eqlArr Tryd.underlying108 Tryd.underlying5 sz5 a b ha hb w)
theorem R.eql27 {a b : List UInt8} {c : Bool} (ha : a.length = 16) (hb : b.length = 16) (hx : ev l x = some (.agg (a.map u8v).toArray)) (hy : ev l y = some (.agg (b.map u8v).toArray)) (h : decide (a = b) = c) : Runs Tryd.prog l (.binOp .eql 27 x y ty) w (.bool c) w := by
  subst h
  exact R.binAgg (by kernel_rfl) hx hy (eqlArr Tryd.underlying27 Tryd.underlying5 sz5 a b ha hb w)
theorem R.neq27 {a b : List UInt8} {c : Bool} (ha : a.length = 16) (hb : b.length = 16) (hx : ev l x = some (.agg (a.map u8v).toArray)) (hy : ev l y = some (.agg (b.map u8v).toArray)) (h : (!decide (a = b)) = c) : Runs Tryd.prog l (.binOp .neq 27 x y ty) w (.bool c) w := by
  subst h
  exact R.binAgg (by kernel_rfl) hx hy (neqArr Tryd.underlying27 Tryd.underlying5 sz5 a b ha hb w)
theorem build27_run (w : World) : (Instr.build 27 #[]).run Tryd.prog w = .ok (.agg (zero16.map u8v).toArray) w := by kernel_rfl
theorem R.build27 : Runs Tryd.prog l (.build 27 #[]) w (.agg (zero16.map u8v).toArray) w := R.build (parts := []) (vals := []) rfl build27_run

/-- 'a[lo:hi]' of an array in memory, to constants. -/
theorem R.sliceArr {lo hi : Option Operand} {hv : Option Value} {lv : Option Value} {n elem b o l1 h1 : Nat} (ht : Tryd.prog.underlying t = some (.array n elem)) (hs : (Tryd.prog.info? elem).map (·.size) = some 1) (hx : ev l x = some (.pointer (some ⟨b, o, none⟩)))
    (hlo : lo.map (ev l) = lv.map some) (hhi : hi.map (ev l) = hv.map some) (hb : (Instr.sliceBounds false n n lv hv none).run Tryd.prog w = .ok (l1, h1, n) w) (hne : ¬ n = l1) :
    Runs Tryd.prog l (.slice t x lo hi none) w (.slice (some ⟨b, o + l1, none⟩) (h1 - l1) (n - l1)) w := fun r _ _ _ _ _ he => by
  obtain ⟨inf, hi', hz⟩ := inf_of hs
  have e1 : lo.map r = lv := by
    cases lo with
    | none => cases lv with
      | none => rfl
      | some a => cases hlo
    | some q => cases lv with
      | none => cases hlo
      | some a => simp only [Option.map_some, Option.some.injEq] at hlo ⊢; exact he q a hlo
  have e2 : hi.map r = hv := by
    cases hi with
    | none => cases hv with
      | none => rfl
      | some a => cases hhi
    | some q => cases hv with
      | none => cases hhi
      | some a => simp only [Option.map_some, Option.some.injEq] at hhi ⊢; exact he q a hhi
  have hat : (Instr.sliceAt t (.pointer (some ⟨b, o, none⟩)) lv hv none).run Tryd.prog w = .ok (.slice (some ⟨b, o + l1, none⟩) (h1 - l1) (n - l1)) w := by
    simp only [Instr.sliceAt, Sem.run_bind, run_underlying ht, Result.andThen_ok, Instr.sureAddr, Sem.run_pure, hb, sizeOf, typeInfo, run_program, hi', hz, Nat.mul_one, hne, if_false, Addr.add_none]
  simp only [execOp, he x _ hx, e1, e2, Option.map_none, Sem.run_bind, hat, Result.andThen_ok]
  rfl
theorem R.toArr {elem : TypeId} {n b o m c : Nat} (ht : Tryd.prog.underlying t = some (.array n elem)) (hx : ev l x = some (.slice (some ⟨b, o, none⟩) m c)) (hm : n ≤ m) : Runs Tryd.prog l (.sliceToArrayPointer t x) w (.pointer (some ⟨b, o, none⟩)) w := fun r _ _ _ _ _ he => by
  have hn : ¬ m < n := by omega
  simp only [execOp, he x _ hx, Instr.arrayAt, Sem.run_bind, run_underlying ht, Result.andThen_ok, hn, if_false, Sem.run_pure]
end
end Go.Proofs.YthcpjcgjmdfpjaaDoor
