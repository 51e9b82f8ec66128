/- Records: which may be; slices of their addresses; the one variable that the package reads. -/
import Derived.Test.YthcpjcgjmdfpjaaDoorEq
namespace Go.Proofs.YthcpjcgjmdfpjaaDoor
open Go Go.RowKit
set_option maxRecDepth 100000

def zero16 : List UInt8 := List.replicate 16 0
def mappedL : List UInt8 := [0, 0, 0, 0, 0, 0, 0, 0, 0, 0, 255, 255]
/-- The variable 'mapped' in memory. -/
def Glob (w : World) : Prop := ∀ (j : Nat) (u : Value), (mappedL.map u8v)[j]? = some u → w.cell? ⟨0, j, none⟩ = some u
theorem Glob.kept {w w' : World} {S : Nat → Prop} (h : Glob w) (hc : Chg S w w') (hn : ¬ S 0) : Glob w' := fun j u hj => cell_chg hc (h j u hj) hn

/-- May it be a record? -/
def rightR (r : Rec) : Bool := namesL r.name && decide (0 ≤ r.ttl) && decide (r.ttl ≤ 1048576) &&
  (if r.type = 1 then decide (r.text = []) && decide (r.data = []) && decide (r.addr.take 12 = mappedL)
   else if r.type = 28 then decide (r.text = []) && decide (r.data = [])
   else if r.type = 2 ∨ r.type = 5 ∨ r.type = 12 then decide (r.data = []) && decide (r.addr = zero16) && namesL r.text
   else decide (0 < r.type) && decide (r.type < 65536) && decide (r.text = []) && decide (r.addr = zero16) && decide (r.data.length ≤ 255))

theorem four {p q s : Prop} : ¬ p ∨ (p ∧ ¬ q) ∨ (p ∧ q ∧ ¬ s) ∨ (p ∧ q ∧ s) := by
  by_cases hp : p <;> by_cases hq : q <;> by_cases hs : s <;> simp [hp, hq, hs]

section
variable {l : Env} {w : World} {x y : Operand} {t ty e : TypeId} {v : Value}
theorem R.eqlStrC {P : Program} {a b : List UInt8} {c : Bool} (hx : ev l x = some (sv a)) (hy : ev l y = some (sv b)) (h : decide (a = b) = c) : Runs P l (.binOp .eql t x y ty) w (.bool c) w := by
  have := R.eqlStr (P := P) (w := w) (t := t) (ty := ty) hx hy
  rwa [h] at this
theorem R.eql108 {a b : List UInt8} {c : Bool} (ha : a.length = 12) (hb : b.length = 12) (hx : ev l x = some (.agg (a.map u8v).toArray)) (hy : ev l y = some (.agg (b.map u8v).toArray)) (h : decide (a = b) = c) : Runs Tryd.prog l (.binOp .eql 108 x y ty) w (.bool c) w := by
  subst h
  exact R.binAgg (by kernel_rfl) hx hy (eqlArr Tryd.underlying108 Tryd.underlying5 sz5 a b ha hb w)
theorem R.eql27 {a b : List UInt8} {c : Bool} (ha : a.length = 16) (hb : b.length = 16) (hx : ev l x = some (.agg (a.map u8v).toArray)) (hy : ev l y = some (.agg (b.map u8v).toArray)) (h : decide (a = b) = c) : Runs Tryd.prog l (.binOp .eql 27 x y ty) w (.bool c) w := by
  subst h
  exact R.binAgg (by kernel_rfl) hx hy (eqlArr Tryd.underlying27 Tryd.underlying5 sz5 a b ha hb w)
theorem R.neq27 {a b : List UInt8} {c : Bool} (ha : a.length = 16) (hb : b.length = 16) (hx : ev l x = some (.agg (a.map u8v).toArray)) (hy : ev l y = some (.agg (b.map u8v).toArray)) (h : (!decide (a = b)) = c) : Runs Tryd.prog l (.binOp .neq 27 x y ty) w (.bool c) w := by
  subst h
  exact R.binAgg (by kernel_rfl) hx hy (neqArr Tryd.underlying27 Tryd.underlying5 sz5 a b ha hb w)
theorem build27_run (w : World) : (Instr.build 27 #[]).run Tryd.prog w = .ok (.agg (zero16.map u8v).toArray) w := by kernel_rfl
theorem R.build27 : Runs Tryd.prog l (.build 27 #[]) w (.agg (zero16.map u8v).toArray) w := R.build (parts := []) (vals := []) rfl build27_run

/-- 'a[lo:hi]' of an array in memory, to constants. -/
theorem R.sliceArr {lo hi : Option Operand} {hv : Option Value} {lv : Option Value} {n elem b o l1 h1 : Nat} (ht : Tryd.prog.underlying t = some (.array n elem)) (hs : (Tryd.prog.info? elem).map (·.size) = some 1) (hx : ev l x = some (.pointer (some ⟨b, o, none⟩)))
    (hlo : lo.map (ev l) = lv.map some) (hhi : hi.map (ev l) = hv.map some) (hb : (Instr.sliceBounds false n n lv hv none).run Tryd.prog w = .ok (l1, h1, n) w) (hne : ¬ n = l1) :
    Runs Tryd.prog l (.slice t x lo hi none) w (.slice (some ⟨b, o + l1, none⟩) (h1 - l1) (n - l1)) w := fun r _ _ _ _ _ he => by
  obtain ⟨inf, hi', hz⟩ := inf_of hs
  have e1 : lo.map r = lv := by
    cases lo with
    | none => cases lv with
      | none => rfl
      | some a => cases hlo
    | some q => cases lv with
      | none => cases hlo
      | some a => simp only [Option.map_some, Option.some.injEq] at hlo ⊢; exact he q a hlo
  have e2 : hi.map r = hv := by
    cases hi with
    | none => cases hv with
      | none => rfl
      | some a => cases hhi
    | some q => cases hv with
      | none => cases hhi
      | some a => simp only [Option.map_some, Option.some.injEq] at hhi ⊢; exact he q a hhi
  have hat : (Instr.sliceAt t (.pointer (some ⟨b, o, none⟩)) lv hv none).run Tryd.prog w = .ok (.slice (some ⟨b, o + l1, none⟩) (h1 - l1) (n - l1)) w := by
    simp only [Instr.sliceAt, Sem.run_bind, run_underlying ht, Result.andThen_ok, Instr.sureAddr, Sem.run_pure, hb, sizeOf, typeInfo, run_program, hi', hz, Nat.mul_one, hne, if_false, Addr.add_none]
  simp only [execOp, he x _ hx, e1, e2, Option.map_none, Sem.run_bind, hat, Result.andThen_ok]
  rfl
theorem R.toArr {elem : TypeId} {n b o m c : Nat} (ht : Tryd.prog.underlying t = some (.array n elem)) (hx : ev l x = some (.slice (some ⟨b, o, none⟩) m c)) (hm : n ≤ m) : Runs Tryd.prog l (.sliceToArrayPointer t x) w (.pointer (some ⟨b, o, none⟩)) w := fun r _ _ _ _ _ he => by
  have hn : ¬ m < n := by omega
  simp only [execOp, he x _ hx, Instr.arrayAt, Sem.run_bind, run_underlying ht, Result.andThen_ok, hn, if_false, Sem.run_pure]
end
end Go.Proofs.YthcpjcgjmdfpjaaDoor
