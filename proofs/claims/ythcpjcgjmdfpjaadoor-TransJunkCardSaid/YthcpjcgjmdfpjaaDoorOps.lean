/- One law an operation, in the words of 'Sym'. -/
import Derived.Test.YthcpjcgjmdfpjaaDoorSym
import Derived.Lib.AppendStr
namespace Go.Proofs.YthcpjcgjmdfpjaaDoor
open Go Go.RowKit

def isAggD : TypeDesc → Bool
  | .struct _ => true
  | .array _ _ => true
  | _ => false

section
variable {P : Program} {l : Env} {w : World} {x y z : Operand} {v u : Value} {t e ty : TypeId}

theorem R.move (h : ev l x = some v) : Runs P l (.move x) w v w := fun r _ _ _ _ _ he => by
  simp only [execOp, he x v h]; rfl
theorem R.assign (h : ev l x = some v) : Runs P l (.assign x) w v w := fun r _ _ _ _ _ he => by
  simp only [execOp, he x v h]; rfl
theorem R.pickT (hc : ev l x = some (.bool true)) (h : ev l y = some v) : Runs P l (.pick x y z) w v w := fun r _ _ _ _ _ he => by
  simp only [execOp, he x _ hc, he y v h]; rfl
theorem R.pickF (hc : ev l x = some (.bool false)) (h : ev l z = some v) : Runs P l (.pick x y z) w v w := fun r _ _ _ _ _ he => by
  simp only [execOp, he x _ hc, he z v h]; rfl
theorem R.not {b : Bool} (h : ev l x = some (.bool b)) : Runs P l (.unOp .not t x) w (.bool !b) w := fun r _ _ _ _ _ he => by
  simp only [execOp, he x _ h]; rfl

/-! ### Whole numbers -/
theorem R.bin {op : BinOp} {k : IntKind} {a b : Int} (hx : ev l x = some (.int k a)) (hy : ev l y = some (.int k b)) (h : binOp op t (.int k a) (.int k b) = pure v) : Runs P l (.binOp op t x y ty) w v w := fun r _ _ _ _ _ he => by
  simp only [execOp, he x _ hx, he y _ hy, eqGuard, h]
  cases op <;> rfl
theorem R.binS {op : BinOp} {k k' : IntKind} {a b : Int} (hx : ev l x = some (.int k a)) (hy : ev l y = some (.int k' b)) (h : binOp op t (.int k a) (.int k' b) = pure v) : Runs P l (.binOp op t x y ty) w v w := fun r _ _ _ _ _ he => by
  simp only [execOp, he x _ hx, he y _ hy, eqGuard, h]
  cases op <;> rfl

theorem R.add {a b : Int} (hx : ev l x = some (.int .i64 a)) (hy : ev l y = some (.int .i64 b)) (h : -9223372036854775808 ≤ a + b ∧ a + b ≤ 9223372036854775807) : Runs P l (.binOp .add t x y ty) w (.int .i64 (a + b)) w :=
  R.bin hx hy (by simp only [binOp, Op.intArith, ne_eq, not_true, ite_false, IntWalk.i64_in _ h])
theorem R.sub {a b : Int} (hx : ev l x = some (.int .i64 a)) (hy : ev l y = some (.int .i64 b)) (h : -9223372036854775808 ≤ a - b ∧ a - b ≤ 9223372036854775807) : Runs P l (.binOp .sub t x y ty) w (.int .i64 (a - b)) w :=
  R.bin hx hy (by simp only [binOp, Op.intArith, ne_eq, not_true, ite_false, IntWalk.i64_in _ h])
theorem R.mul {a b : Int} (hx : ev l x = some (.int .i64 a)) (hy : ev l y = some (.int .i64 b)) (h : -9223372036854775808 ≤ a * b ∧ a * b ≤ 9223372036854775807) : Runs P l (.binOp .mul t x y ty) w (.int .i64 (a * b)) w :=
  R.bin hx hy (by simp only [binOp, Op.intArith, ne_eq, not_true, ite_false, IntWalk.i64_in _ h])
theorem R.addu8 {a b : Int} (hx : ev l x = some (.int .u8 a)) (hy : ev l y = some (.int .u8 b)) (h : 0 ≤ a + b ∧ a + b ≤ 255) : Runs P l (.binOp .add t x y ty) w (.int .u8 (a + b)) w :=
  R.bin hx hy (by simp only [binOp, Op.intArith, ne_eq, not_true, ite_false, IntWalk.u8_in _ h])
theorem R.shr {a b : Int} {k' : IntKind} (hx : ev l x = some (.int .i64 a)) (hy : ev l y = some (.int k' b)) (h : 0 ≤ b ∧ b ≤ 64) : Runs P l (.binOp .shr t x y ty) w (.int .i64 (a / 2 ^ b.toNat)) w :=
  R.binS hx hy (by
    have h1 : ¬ b < 0 := by omega
    have h2 : min b.toNat IntKind.i64.bits = b.toNat := by simp only [IntKind.bits]; omega
    have h3 : a.fdiv (2 ^ b.toNat) = a / 2 ^ b.toNat := Int.fdiv_eq_ediv_of_nonneg _ (Int.le_of_lt (Int.pow_pos (by decide)))
    simp only [binOp, Op.shift, h1, if_false, h2, h3])
theorem R.shl {a b : Int} {k' : IntKind} (hx : ev l x = some (.int .i64 a)) (hy : ev l y = some (.int k' b)) (h : 0 ≤ b ∧ b ≤ 64) (hr : -9223372036854775808 ≤ a * 2 ^ b.toNat ∧ a * 2 ^ b.toNat ≤ 9223372036854775807) : Runs P l (.binOp .shl t x y ty) w (.int .i64 (a * 2 ^ b.toNat)) w :=
  R.binS hx hy (by
    have h1 : ¬ b < 0 := by omega
    have h2 : min b.toNat IntKind.i64.bits = b.toNat := by simp only [IntKind.bits]; omega
    simp only [binOp, Op.shift, h1, if_false, h2, IntWalk.i64_in _ hr])

section cmp
variable {k : IntKind} {a b : Int}
theorem R.lss (hx : ev l x = some (.int k a)) (hy : ev l y = some (.int k b)) {c : Bool} (h : decide (a < b) = c) : Runs P l (.binOp .lss t x y ty) w (.bool c) w :=
  R.bin hx hy (by simp only [binOp, Op.intCmp, ne_eq, not_true, ite_false, h])
theorem R.leq (hx : ev l x = some (.int k a)) (hy : ev l y = some (.int k b)) {c : Bool} (h : decide (a ≤ b) = c) : Runs P l (.binOp .leq t x y ty) w (.bool c) w :=
  R.bin hx hy (by simp only [binOp, Op.intCmp, ne_eq, not_true, ite_false, h])
theorem R.gtr (hx : ev l x = some (.int k a)) (hy : ev l y = some (.int k b)) {c : Bool} (h : decide (a > b) = c) : Runs P l (.binOp .gtr t x y ty) w (.bool c) w :=
  R.bin hx hy (by simp only [binOp, Op.intCmp, ne_eq, not_true, ite_false, h])
theorem R.geq (hx : ev l x = some (.int k a)) (hy : ev l y = some (.int k b)) {c : Bool} (h : decide (a ≥ b) = c) : Runs P l (.binOp .geq t x y ty) w (.bool c) w :=
  R.bin hx hy (by simp only [binOp, Op.intCmp, ne_eq, not_true, ite_false, h])
theorem R.eql (hx : ev l x = some (.int k a)) (hy : ev l y = some (.int k b)) {c : Bool} (h : decide (a = b) = c) : Runs P l (.binOp .eql t x y ty) w (.bool c) w :=
  R.bin hx hy (by
    have : (a == b) = c := by rw [← h]; by_cases e : a = b <;> simp [e]
    simp only [binOp, Op.intCmp, ne_eq, not_true, ite_false, this])
theorem R.neq (hx : ev l x = some (.int k a)) (hy : ev l y = some (.int k b)) {c : Bool} (h : decide (a ≠ b) = c) : Runs P l (.binOp .neq t x y ty) w (.bool c) w :=
  R.bin hx hy (by
    have : (a != b) = c := by rw [← h]; by_cases e : a = b <;> simp [e]
    simp only [binOp, Op.intCmp, ne_eq, not_true, ite_false, this])
end cmp

theorem R.convInt {k k' : IntKind} {a : Int} {src dst : TypeId} {d : TypeDesc} (hs : P.underlying src = some d) (hd : P.underlying dst = some (.int k')) (hx : ev l x = some (.int k a)) {b : Int} (hb : k'.wrap a = b) : Runs P l (.convert src dst x) w (.int k' b) w := fun r _ _ _ _ _ he => by
  simp only [execOp, he x _ hx, convert, Sem.run_bind, run_underlying hs, run_underlying hd, Result.andThen_ok, Conv.intToInt, hb]
  cases d <;> rfl

/-! ### Strings and slices -/
theorem R.lenStr {s : ByteArray} {cs : Array TypeId} (hc : cs[0]? = some t) (ht : P.underlying t = some .string) (hx : ev l x = some (.string s)) : Runs P l (.call { callee := .builtin .len, args := #[x], argTypes := cs }) w (.int .i64 s.size) w := fun r _ _ _ _ _ he => by
  simp [execOp, resolve, invoke, builtin, Builtin.len_, he x _ hx, hc, run_underlying ht, goInt]
theorem R.lenSlice {a : Option Addr} {m c : Nat} {cs : Array TypeId} (hc : cs[0]? = some t) (ht : P.underlying t = some (.slice e)) (hx : ev l x = some (.slice a m c)) : Runs P l (.call { callee := .builtin .len, args := #[x], argTypes := cs }) w (.int .i64 m) w := fun r _ _ _ _ _ he => by
  simp [execOp, resolve, invoke, builtin, Builtin.len_, he x _ hx, hc, run_underlying ht, goInt]

theorem R.nilCheck {a : Addr} (hx : ev l x = some (.pointer (some a))) : Runs P l (.nilCheck x) w (.pointer (some a)) w := fun r _ _ _ _ _ he => by
  simp only [execOp, he x _ hx]; rfl

theorem Addr.add_none (b o k : Nat) : (⟨b, o, none⟩ : Addr).add k = ⟨b, o + k, none⟩ := by unfold Addr.add; split <;> simp_all

theorem R.fieldAddr {fs : Array Field} {f off o b : Nat} {fd : Field} {i : TypeInfo} (ht : P.underlying t = some (.struct fs)) (hf : fs[f]? = some fd) (ho : fd.offset = off) (hi : P.info? fd.type = some i) (hz : i.size ≠ 0) (hx : ev l x = some (.pointer (some ⟨b, o, none⟩))) :
    Runs P l (.fieldAddr t x f) w (.pointer (some ⟨b, o + off, none⟩)) w := fun r _ _ _ _ _ he => by
  subst ho
  simp [execOp, he x _ hx, Instr.fieldAt, run_underlying ht, hf, Instr.sureAddr, fieldPlace, sizeOf, typeInfo, hi, hz, Addr.add_none]

/-- A cell of a block. -/
theorem cell_at {w : World} {b o : Nat} {cs : Array Value} {e : TypeId} {fr : Nat × Nat} (hb : w.heap[b]? = some (.cells cs e fr)) (hv : cs[o]? = some v) : w.cell? ⟨b, o, none⟩ = some v := by
  simp [World.cell?, hb, hv]

theorem R.load {d : TypeDesc} {b o : Nat} (ht : P.underlying t = some d) (hd : isAggD d = false) (hx : ev l x = some (.pointer (some ⟨b, o, none⟩))) (hc : w.cell? ⟨b, o, none⟩ = some v) :
    Runs P l (.load t x) w v w := fun r _ _ _ _ _ he => by
  have hag : (isAgg t).run P w = .ok false w := by
    simp only [isAgg, Sem.run_bind, run_underlying ht, Result.andThen_ok]
    cases d <;> first | rfl | cases hd
  simp [execOp, he x _ hx, Instr.loadAt, Instr.sureAddr, loadVar, hag, hc]

theorem R.loadAgg {d : TypeDesc} {b o : Nat} {cs : List Value} {i : TypeInfo} (ht : P.underlying t = some d) (hd : isAggD d = true) (hi : P.info? t = some i) (hn : i.size = cs.length)
    (hx : ev l x = some (.pointer (some ⟨b, o, none⟩))) (hc : ∀ j u, cs[j]? = some u → w.cell? ⟨b, o + j, none⟩ = some u) :
    Runs P l (.load t x) w (.agg cs.toArray) w := fun r _ _ _ _ _ he => by
  have hag : (isAgg t).run P w = .ok true w := by
    simp only [isAgg, Sem.run_bind, run_underlying ht, Result.andThen_ok]
    cases d <;> first | rfl | cases hd
  have hl := run_loadCells_list (P := P) w ⟨b, o, none⟩ cs (fun j u hj => by rw [Addr.add_none]; exact hc j u hj)
  simp [execOp, he x _ hx, Instr.loadAt, Instr.sureAddr, loadVar, hag, sizeOf, typeInfo, hi, hn, hl]

/-- A store of one cell. -/
theorem R.store {b o : Nat} {cs : Array Value} {fr : Nat × Nat} {i : TypeInfo} (hi : P.info? t = some i) (hn : i.size = 1) (hx : ev l x = some (.pointer (some ⟨b, o, none⟩))) (hy : ev l y = some v) (h1 : v.oneCell' = true) (hv : v.cells = #[v])
    (hb : w.heap[b]? = some (.cells cs e fr)) (ho : o < cs.size) (hf : (decide (fr.1 ≤ o) && decide (o < fr.2)) = false) : RunsU P l (.store t x y) w (w.setCell ⟨b, o, none⟩ v) := fun r _ _ _ _ _ he => by
  have hc : w.cell? ⟨b, o, none⟩ = some cs[o] := cell_at hb (by simp [ho])
  have hfz : w.frozen? ⟨b, o, none⟩ = false := by simp only [World.frozen?, hb]; exact hf
  simp [execOp, he x _ hx, he y _ hy, Instr.storeAt, Instr.sureAddr, storeVar, hv, sizeOf, typeInfo, hi, hn, storeCells, Addr.add_none, run_store P w _ _ _ h1, hc, hfz]

theorem setCell_at {w : World} {b o : Nat} {cs : Array Value} {e : TypeId} {fr : Nat × Nat} (hb : w.heap[b]? = some (.cells cs e fr)) (v : Value) : (w.setCell ⟨b, o, none⟩ v).heap[b]? = some (.cells (cs.setIfInBounds o v) e fr) := by
  simp [World.setCell, Array.getElem?_modify, hb]

end
end Go.Proofs.YthcpjcgjmdfpjaaDoor
