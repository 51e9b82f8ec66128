/- The reader in memory; numbers of bytes. -/
import Derived.Test.YthcpjcgjmdfpjaaDoorNames
import Derived.Test.YthcpjcgjmdfpjaaDoorJoin
namespace Go.Proofs.YthcpjcgjmdfpjaaDoor
open Go Go.RowKit
set_option maxRecDepth 100000

/-- The reader's block. -/
abbrev RSt (w : World) (rb : Nat) (A : Option Addr) (m c : Nat) (at_ : Nat) (bad : Bool) : Prop :=
  w.heap[rb]? = some (.cells #[.slice A m c, .int .i64 (at_ : Int), .bool bad] 100 (0, 0))
/-- The bytes that it reads. -/
structure Src (w : World) (A : Option Addr) (m c : Nat) (bs : List UInt8) : Prop where
  len : bs.length = m
  cap : m ≤ c
  cells : m ≠ 0 → ∃ g o, A = some ⟨g, o, none⟩ ∧ ∀ (j : Nat) (b : UInt8), bs[j]? = some b → w.cell? ⟨g, o + j, none⟩ = some (u8v b)
theorem cell_chg {w w' : World} {S : Nat → Prop} (hc : Chg S w w') {g o : Nat} {v : Value} (hv : w.cell? ⟨g, o, none⟩ = some v) (hn : ¬ S g) : w'.cell? ⟨g, o, none⟩ = some v := by
  have hlt := World.block_lt_of_cell? w ⟨g, o, none⟩ hv
  have := hc.block g hlt hn
  simp only [World.cell?, this] at hv ⊢
  exact hv
theorem Src.kept {w w' : World} {A : Option Addr} {m c : Nat} {bs : List UInt8} {S : Nat → Prop} (h : Src w A m c bs) (hc : Chg S w w') (hn : ∀ g o, A = some ⟨g, o, none⟩ → ¬ S g) : Src w' A m c bs := by
  refine ⟨h.len, h.cap, fun h0 => ?_⟩
  obtain ⟨g, o, hA, hcell⟩ := h.cells h0
  exact ⟨g, o, hA, fun j b hj => cell_chg hc (hcell j b hj) (hn g o hA)⟩

theorem R.sliceIn {l : Env} {w : World} {x y z : Operand} {t elem g ofs m cap lo hi : Nat} {k1 k2 : IntKind} {a b : Int} (ht : Tryd.prog.underlying t = some (.slice elem)) (hs : (Tryd.prog.info? elem).map (·.size) = some 1) (hx : ev l x = some (.slice (some ⟨g, ofs, none⟩) m cap)) (ha : ev l y = some (.int k1 a)) (hb : ev l z = some (.int k2 b))
    (hea : a = (lo : Int)) (heb : b = (hi : Int)) (h1 : lo < hi) (h2 : hi ≤ cap) :
    Runs Tryd.prog l (.slice t x (some y) (some z) none) w (.slice (some ⟨g, ofs + lo, none⟩) (hi - lo) (cap - lo)) w := by
  have := R.sliceSl (w := w) ht hs hx ha hb hea heb (Nat.le_of_lt h1) h2
  rwa [if_neg (show ¬ cap = lo by omega)] at this

/-- A number of bytes, the highest first. -/
def beNat (l : List UInt8) : Nat := l.foldl (fun x c => x * 256 + c.toNat) 0
theorem beNat_snoc (l : List UInt8) (c : UInt8) : beNat (l ++ [c]) = beNat l * 256 + c.toNat := by simp [beNat, List.foldl_append]
theorem beNat_lt (l : List UInt8) : beNat l < 256 ^ l.length := by
  have key : ∀ (n : Nat) (l : List UInt8), l.length = n → beNat l < 256 ^ n := by
    intro n
    induction n with
    | zero => intro l h; have := List.eq_nil_of_length_eq_zero h; subst this; simp [beNat]
    | succ n ih =>
      intro l h
      obtain ⟨l', c, rfl⟩ : ∃ l' c, l = l' ++ [c] := by
        have hne : l ≠ [] := by intro e; subst e; simp at h
        exact ⟨l.dropLast, l.getLast hne, (List.dropLast_concat_getLast hne).symm⟩
      rw [beNat_snoc]
      have h1 := ih l' (by simpa using h)
      have h2 := c.toNat_lt
      rw [Nat.pow_succ]; omega
  exact key l.length l rfl
theorem beNat_take {l : List UInt8} {j : Nat} {c : UInt8} (h : l[j]? = some c) : beNat (l.take (j + 1)) = beNat (l.take j) * 256 + c.toNat := by
  have hlt := (List.getElem?_eq_some_iff.1 h).1
  have hv := (List.getElem?_eq_some_iff.1 h).2
  rw [List.take_succ_eq_append_getElem hlt, hv, beNat_snoc]
theorem beNat_take_lt (l : List UInt8) {j : Nat} (h : j ≤ 4) : beNat (l.take j) < 4294967296 := by
  have h1 := beNat_lt (l.take j)
  have h2 : (l.take j).length ≤ 4 := by rw [List.length_take]; omega
  exact Nat.lt_of_lt_of_le h1 (Nat.pow_le_pow_right (by decide) h2)

/-- What a number read at a place is, and where the reader stands then. -/
def numR (bs : List UInt8) (n at_ : Nat) (bad : Bool) : Nat × Nat × Bool :=
  if bad = true ∨ bs.length < at_ + n then (0, at_, true) else (beNat ((bs.drop at_).take n), at_ + n, false)

theorem binOp_or256 (t : TypeId) (a : Nat) (c : UInt8) (h : a < 36028797018963968) : binOp .or t (.int .i64 ((a : Int) * 2 ^ (8 : Int).toNat)) (.int .i64 (c.toNat : Int)) = pure (.int .i64 ((a * 256 + c.toNat : Nat) : Int)) := by
  have hc := c.toNat_lt
  simp only [binOp, Op.intBits, ne_eq, not_true, ite_false]
  have e1 : ((a : Int) * 2 ^ (8 : Int).toNat) = ((a * 256 : Nat) : Int) := by
    rw [show (8 : Int).toNat = 8 from rfl]; omega
  rw [e1]
  have hb : ∀ k : Nat, k < 18446744073709551616 → (BitVec.ofInt IntKind.i64.bits (k : Int)).toNat = k := by
    intro k hk
    show (BitVec.ofInt 64 (k : Int)).toNat = k
    simp [BitVec.toNat_ofInt]; omega
  have e : (BitVec.ofInt IntKind.i64.bits ((a * 256 : Nat) : Int) ||| BitVec.ofInt IntKind.i64.bits (c.toNat : Int)).toNat = a * 256 + c.toNat := by
    rw [BitVec.toNat_or, hb _ (by omega), hb _ (by omega)]
    have := Nat.shiftLeft_add_eq_or_of_lt (show c.toNat < 2 ^ 8 by omega) a
    rw [Nat.shiftLeft_eq] at this
    rw [show a * 2 ^ 8 = a * 256 by omega] at this
    exact this.symm
  rw [e, IntWalk.i64_in _ (by omega)]
theorem R.or256 {l : Env} {w : World} {x y : Operand} {t ty : TypeId} {P : Program} {a : Nat} {c : UInt8} (hx : ev l x = some (.int .i64 ((a : Int) * 2 ^ (8 : Int).toNat))) (hy : ev l y = some (.int .i64 (c.toNat : Int))) (h : a < 36028797018963968) : Runs P l (.binOp .or t x y ty) w (.int .i64 ((a * 256 + c.toNat : Nat) : Int)) w :=
  R.bin hx hy (binOp_or256 t a c h)
end Go.Proofs.YthcpjcgjmdfpjaaDoor
