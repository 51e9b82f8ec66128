/- What the reader makes of bytes: plain. -/
import Derived.Test.YthcpjcgjmdfpjaaDoorReader
namespace Go.Proofs.YthcpjcgjmdfpjaaDoor

/-- A name's labels from a place on; 'r': where the reader goes on behind it. -/
def rdName (bs : List UInt8) : Nat → Nat → Nat → Nat → List (List UInt8) → Nat → Option (List UInt8 × Nat)
  | 0, _, _, _, _, _ => none
  | f + 1, a, hops, size, acc, r =>
    match bs[a]? with
    | none => none
    | some c =>
      if c.toNat = 0 then (if namesL (joinL acc) then some (joinL acc, if hops = 0 then a + 1 else r) else none)
      else if 192 ≤ c.toNat then
        match bs[a + 1]? with
        | none => none
        | some c2 => if hops = 16 then none else if a ≤ c.toNat % 64 * 256 + c2.toNat then none
          else rdName bs f (c.toNat % 64 * 256 + c2.toNat) (hops + 1) size acc (if hops = 0 then a + 2 else r)
      else if 63 < c.toNat ∨ bs.length < a + 1 + c.toNat ∨ 254 < size + (c.toNat + 1) then none
      else rdName bs f (a + 1 + c.toNat) hops (size + (c.toNat + 1)) (acc ++ [lower ((bs.drop (a + 1)).take c.toNat)]) r

section
variable {bs : List UInt8} {f a hops size : Nat} {acc : List (List UInt8)} {r : Nat} {c c2 : UInt8}
theorem rd_end (h : bs.length ≤ a) : rdName bs f a hops size acc r = none := by
  cases f with
  | zero => rfl
  | succ f => simp [rdName, List.getElem?_eq_none h]
theorem rd_zero (hc : bs[a]? = some c) (h0 : c.toNat = 0) : rdName bs (f + 1) a hops size acc r = if namesL (joinL acc) then some (joinL acc, if hops = 0 then a + 1 else r) else none := by
  simp only [rdName, hc, h0, if_true]
theorem rd_ptr_end (hc : bs[a]? = some c) (h0 : 192 ≤ c.toNat) (h : bs.length ≤ a + 1) : rdName bs (f + 1) a hops size acc r = none := by
  simp only [rdName, hc, List.getElem?_eq_none h]
  rw [if_neg (by omega), if_pos h0]
theorem rd_ptr_many (hc : bs[a]? = some c) (h0 : 192 ≤ c.toNat) (h : hops = 16) : rdName bs (f + 1) a hops size acc r = none := by
  simp only [rdName, hc]
  rw [if_neg (by omega), if_pos h0]
  cases bs[a + 1]? with
  | none => rfl
  | some c2 => simp only; rw [if_pos h]
theorem rd_ptr_ahead (hc : bs[a]? = some c) (h0 : 192 ≤ c.toNat) (hc2 : bs[a + 1]? = some c2) (h : a ≤ c.toNat % 64 * 256 + c2.toNat) : rdName bs (f + 1) a hops size acc r = none := by
  simp only [rdName, hc, hc2]
  rw [if_neg (by omega), if_pos h0]
  split <;> first | rfl | (rw [if_pos h])
theorem rd_ptr (hc : bs[a]? = some c) (h0 : 192 ≤ c.toNat) (hc2 : bs[a + 1]? = some c2) (hh : ¬ hops = 16) (h : ¬ a ≤ c.toNat % 64 * 256 + c2.toNat) :
    rdName bs (f + 1) a hops size acc r = rdName bs f (c.toNat % 64 * 256 + c2.toNat) (hops + 1) size acc (if hops = 0 then a + 2 else r) := by
  simp only [rdName, hc, hc2]
  rw [if_neg (by omega), if_pos h0, if_neg hh, if_neg h]
theorem rd_lab_bad (hc : bs[a]? = some c) (h0 : ¬ c.toNat = 0) (h1 : ¬ 192 ≤ c.toNat) (h : 63 < c.toNat ∨ bs.length < a + 1 + c.toNat ∨ 254 < size + (c.toNat + 1)) : rdName bs (f + 1) a hops size acc r = none := by
  simp only [rdName, hc]
  rw [if_neg h0, if_neg h1, if_pos h]
theorem rd_lab (hc : bs[a]? = some c) (h0 : ¬ c.toNat = 0) (h1 : ¬ 192 ≤ c.toNat) (h : ¬ (63 < c.toNat ∨ bs.length < a + 1 + c.toNat ∨ 254 < size + (c.toNat + 1))) :
    rdName bs (f + 1) a hops size acc r = rdName bs f (a + 1 + c.toNat) hops (size + (c.toNat + 1)) (acc ++ [lower ((bs.drop (a + 1)).take c.toNat)]) r := by
  simp only [rdName, hc]
  rw [if_neg h0, if_neg h1, if_neg h]
end

/-- What a name's reading leaves. -/
def NameRes (res : Option (List UInt8 × Nat)) (s : List UInt8) (a : Nat) (bad : Bool) : Prop :=
  match res with
  | some (s0, a0) => s = s0 ∧ a = a0 ∧ bad = false
  | none => s = [] ∧ bad = true
theorem NameRes.none {a : Nat} {res : Option (List UInt8 × Nat)} (h : res = none) : NameRes res [] a true := by subst h; exact ⟨rfl, rfl⟩

theorem joinL_snoc_length (acc : List (List UInt8)) (x : List UInt8) : (joinL (acc ++ [x])).length ≤ (joinL acc).length + (x.length + 1) := by
  rw [joinL_snoc]
  split
  · rename_i h; subst h; simp [joinL]
  · simp

theorem binOp_and63 (t : TypeId) (c : UInt8) : binOp .and t (.int .i64 (c.toNat : Int)) (.int .i64 63) = pure (.int .i64 ((c.toNat % 64 : Nat) : Int)) := by
  have hc := c.toNat_lt
  simp only [binOp, Op.intBits, ne_eq, not_true, ite_false]
  have hb : ∀ k : Nat, k < 18446744073709551616 → (BitVec.ofInt IntKind.i64.bits (k : Int)).toNat = k := by
    intro k hk
    show (BitVec.ofInt 64 (k : Int)).toNat = k
    simp [BitVec.toNat_ofInt]; omega
  have e : (BitVec.ofInt IntKind.i64.bits (c.toNat : Int) &&& BitVec.ofInt IntKind.i64.bits 63).toNat = c.toNat % 64 := by
    rw [BitVec.toNat_and, hb _ (by omega), show (BitVec.ofInt IntKind.i64.bits 63).toNat = 63 from rfl]
    exact Nat.and_two_pow_sub_one_eq_mod c.toNat 6
  rw [e, IntWalk.i64_in _ (by omega)]
theorem R.and63 {l : Env} {w : World} {x y : Operand} {t ty : TypeId} {P : Program} {c : UInt8} (hx : ev l x = some (.int .i64 (c.toNat : Int))) (hy : ev l y = some (.int .i64 63)) : Runs P l (.binOp .and t x y ty) w (.int .i64 ((c.toNat % 64 : Nat) : Int)) w :=
  R.bin hx hy (binOp_and63 t c)
end Go.Proofs.YthcpjcgjmdfpjaaDoor
