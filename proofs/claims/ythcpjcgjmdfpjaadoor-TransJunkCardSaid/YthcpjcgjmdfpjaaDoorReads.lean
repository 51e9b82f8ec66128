/- Names that were written are read again: plain. -/
import Derived.Test.YthcpjcgjmdfpjaaDoorEnc
namespace Go.Proofs.YthcpjcgjmdfpjaaDoor
open Go Go.RowKit

/-- From a place in bytes a name's labels are read, with so many leaps, and the reader goes on at the last place. -/
inductive RN (bs : List UInt8) : Nat → List (List UInt8) → Nat → Nat → Prop
  | zero {a : Nat} (h : bs[a]? = some 0) : RN bs a [] 0 (a + 1)
  | lab {a h e : Nat} {x : List UInt8} {ls : List (List UInt8)} {c : UInt8} (hc : bs[a]? = some c) (hn : c.toNat = x.length) (h0 : 0 < x.length) (h63 : x.length ≤ 63) (hx : (bs.drop (a + 1)).take x.length = x) (hr : RN bs (a + 1 + x.length) ls h e) : RN bs a (x :: ls) h e
  | ptr {a p h e : Nat} {ls : List (List UInt8)} {c c2 : UInt8} (hc : bs[a]? = some c) (h192 : 192 ≤ c.toNat) (hc2 : bs[a + 1]? = some c2) (hp : p = c.toNat % 64 * 256 + c2.toNat) (hlt : p < a) (hr : RN bs p ls h e) : RN bs a ls (h + 1) (a + 2)

theorem at_app {bs more : List UInt8} {a : Nat} {c : UInt8} (h : bs[a]? = some c) : (bs ++ more)[a]? = some c := by
  rw [List.getElem?_append_left (List.getElem?_eq_some_iff.1 h).1]; exact h
theorem take_len {bs x : List UInt8} {a : Nat} (hx : (bs.drop a).take x.length = x) : x.length = 0 ∨ a + x.length ≤ bs.length := by
  have := congrArg List.length hx
  rw [List.length_take, List.length_drop] at this
  omega
theorem RN.app {bs : List UInt8} (more : List UInt8) {a h e : Nat} {ls : List (List UInt8)} (hr : RN bs a ls h e) : RN (bs ++ more) a ls h e := by
  induction hr with
  | zero h => exact .zero (at_app h)
  | lab hc hn h0 h63 hx _ ih =>
    refine .lab (at_app hc) hn h0 h63 ?_ ih
    have := take_len hx
    rw [List.drop_append_of_le_length (by omega), List.take_append_of_le_length (by rw [List.length_drop]; omega)]
    exact hx
  | ptr hc h192 hc2 hp hlt _ ih => exact .ptr (at_app hc) h192 (at_app hc2) hp hlt ih
theorem RN.lt {bs : List UInt8} {a h e : Nat} {ls : List (List UInt8)} (hr : RN bs a ls h e) : a < bs.length := by
  cases hr with
  | zero h => exact (List.getElem?_eq_some_iff.1 h).1
  | lab hc _ _ _ _ _ => exact (List.getElem?_eq_some_iff.1 hc).1
  | ptr hc _ _ _ _ _ => exact (List.getElem?_eq_some_iff.1 hc).1

/-- What the reader makes of it. -/
theorem rd_of_RN {bs : List UInt8} {a h e : Nat} {ls : List (List UInt8)} (hr : RN bs a ls h e) : ∀ (f hops size : Nat) (acc : List (List UInt8)) (r : Nat), ls.length + h < f → hops + h ≤ 16 → size + wlen ls ≤ 254 → namesL (joinL (acc ++ ls.map lower)) = true →
    rdName bs f a hops size acc r = some (joinL (acc ++ ls.map lower), if hops = 0 then e else r) := by
  induction hr with
  | zero h =>
    intro f hops size acc r hf _ _ hn
    obtain ⟨g, rfl⟩ : ∃ g, f = g + 1 := ⟨f - 1, by omega⟩
    rw [List.map_nil, List.append_nil] at hn ⊢
    rw [rd_zero h rfl, if_pos hn]
  | @lab a h e x ls c hc hl h0 h63 hx hr ih =>
    intro f hops size acc r hf hh hs hn
    obtain ⟨g, rfl⟩ : ∃ g, f = g + 1 := ⟨f - 1, by omega⟩
    have hlt := take_len hx
    simp only [wlen, List.length_cons] at hs hf
    rw [rd_lab hc (by omega) (by omega) (by omega), hl, hx]
    have e1 : acc ++ (x :: ls).map lower = (acc ++ [lower x]) ++ ls.map lower := by simp
    rw [e1] at hn ⊢
    exact ih g hops _ _ r (by omega) hh (by omega) hn
  | @ptr a p h e ls c c2 hc h192 hc2 hp hlt hr ih =>
    intro f hops size acc r hf hh hs hn
    obtain ⟨g, rfl⟩ : ∃ g, f = g + 1 := ⟨f - 1, by omega⟩
    subst hp
    rw [rd_ptr hc h192 hc2 (by omega) (by omega)]
    rw [ih g (hops + 1) size acc _ (by omega) (by omega) hs hn, if_neg (by omega)]

/-! ### Labels -/
def Lab (x : List UInt8) : Prop := 0 < x.length ∧ x.length ≤ 63 ∧ ∀ c ∈ x, c ≠ 46
theorem splitL_nodot {x : List UInt8} (h : ∀ c ∈ x, c ≠ 46) : splitL x = [x] := by
  induction x with
  | nil => rfl
  | cons c r ih => rw [splitL_sign (h c (by simp)), ih (fun d hd => h d (by simp [hd]))]; rfl
theorem splitL_app {x : List UInt8} (h : ∀ c ∈ x, c ≠ 46) (r : List UInt8) : splitL (x ++ 46 :: r) = x :: splitL r := by
  induction x with
  | nil => exact splitL_dot r
  | cons c y ih => rw [List.cons_append, splitL_sign (h c (by simp)), ih (fun d hd => h d (by simp [hd]))]; rfl
theorem split_join : ∀ {ls : List (List UInt8)}, ls ≠ [] → (∀ x ∈ ls, Lab x) → splitL (joinL ls) = ls
  | [], h, _ => absurd rfl h
  | [x], _, hl => splitL_nodot (hl x (by simp)).2.2
  | x :: y :: r, _, hl => by
    show splitL (x ++ 46 :: joinL (y :: r)) = _
    rw [splitL_app (hl x (by simp)).2.2, split_join (by simp) (fun z hz => hl z (by simp [hz]))]
theorem join_split (s : List UInt8) : joinL (splitL s) = s := by
  induction s with
  | nil => rfl
  | cons c r ih =>
    by_cases e : c = 46
    · subst e
      rw [splitL_dot]
      cases hs : splitL r with
      | nil => exact absurd hs (splitL_ne r)
      | cons y ys => rw [hs] at ih; show [] ++ 46 :: joinL (y :: ys) = _; rw [ih]; rfl
    · rw [splitL_sign e]
      cases hs : splitL r with
      | nil => exact absurd hs (splitL_ne r)
      | cons y ys =>
        rw [hs] at ih
        cases ys with
        | nil => show [c] ++ y = _; have : y = r := ih; rw [this]; rfl
        | cons z zs => show ([c] ++ y) ++ 46 :: joinL (z :: zs) = _; rw [← ih]; simp [joinL]
theorem splitL_dotfree (s : List UInt8) : ∀ x ∈ splitL s, ∀ c ∈ x, c ≠ 46 := by
  induction s with
  | nil => intro x hx c hc; simp [splitL] at hx; subst hx; cases hc
  | cons d r ih =>
    intro x hx c hc
    by_cases e : d = 46
    · subst e; rw [splitL_dot] at hx
      rcases List.mem_cons.1 hx with rfl | h
      · cases hc
      · exact ih x h c hc
    · rw [splitL_sign e] at hx
      cases hs : splitL r with
      | nil => exact absurd hs (splitL_ne r)
      | cons y ys =>
        rw [hs] at hx ih
        rcases List.mem_cons.1 hx with rfl | h
        · rcases List.mem_cons.1 hc with rfl | h2
          · exact e
          · exact ih y (by simp) c h2
        · exact ih x (by simp [h]) c hc
theorem rightL_len {x : List UInt8} (h : rightL x = true) : 0 < x.length ∧ x.length ≤ 63 := by
  unfold rightL at h
  simp only [Bool.and_eq_true, decide_eq_true_eq, bne_iff_ne, ne_eq] at h
  exact ⟨List.length_pos_iff.2 h.1.1.1.1, h.1.1.1.2⟩
theorem names_lab {s : List UInt8} (h : namesL s = true) : ∀ x ∈ splitL s, Lab x := by
  intro x hx
  have hr : rightL x = true := by
    unfold namesL at h
    simp only [Bool.and_eq_true, List.all_eq_true] at h
    exact h.2 x hx
  exact ⟨(rightL_len hr).1, (rightL_len hr).2, splitL_dotfree s x hx⟩
theorem names_len {s : List UInt8} (h : namesL s = true) : s.length ≤ 253 ∧ lower s = s := by
  unfold namesL at h
  simp only [Bool.and_eq_true, decide_eq_true_eq, beq_iff_eq] at h
  exact h.1
theorem low1_dot (c : UInt8) : low1 c = 46 ↔ c = 46 := by
  unfold low1
  split
  · rename_i h
    constructor
    · intro h2
      have h3 := congrArg UInt8.toNat h2
      rw [UInt8.toNat_add] at h3
      have : (32 : UInt8).toNat = 32 := rfl
      have : (46 : UInt8).toNat = 46 := rfl
      omega
    · intro h2; subst h2
      have : (46 : UInt8).toNat = 46 := rfl
      omega
  · exact Iff.rfl
theorem split_lower (s : List UInt8) : splitL (lower s) = (splitL s).map lower := by
  induction s with
  | nil => rfl
  | cons c r ih =>
    show splitL (low1 c :: lower r) = _
    by_cases e : c = 46
    · subst e
      rw [show low1 46 = 46 from (low1_dot 46).2 rfl, splitL_dot, splitL_dot, ih]; rfl
    · have e2 : low1 c ≠ 46 := fun h => e ((low1_dot c).1 h)
      rw [splitL_sign e2, splitL_sign e, ih]
      cases hs : splitL r with
      | nil => exact absurd hs (splitL_ne r)
      | cons y ys => simp [ph, lower]
theorem names_lower {s : List UInt8} (h : namesL s = true) : (splitL s).map lower = splitL s := by
  rw [← split_lower, (names_len h).2]
theorem joinL_shorter {x : List UInt8} {xs : List (List UInt8)} (h : 0 < x.length) : (joinL xs).length < (joinL (x :: xs)).length := by
  cases xs with
  | nil => simpa [joinL] using h
  | cons y ys => simp [joinL]; omega

/-! ### Written names are read -/
theorem byteOf_small {n : Nat} (h : n < 256) : (byteOf (n : Int)).toNat = n := by
  have := byteOf_toNat (n : Int)
  have h2 : ((byteOf (n : Int)).toNat : Int) = (n : Int) % 256 := by first | exact this.symm | exact this
  omega
def GoodE (b : List UInt8) (e : List UInt8 × Nat) : Prop := e.2 < 16384 ∧ ∃ h p, RN b e.2 (splitL e.1) h p ∧ h + 1 ≤ (splitL e.1).length
theorem GoodE.app {b : List UInt8} {e : List UInt8 × Nat} (h : GoodE b e) (more : List UInt8) : GoodE (b ++ more) e := by
  obtain ⟨h1, k, p, h2, h3⟩ := h
  exact ⟨h1, k, p, h2.app more, h3⟩
theorem beN2 (p : Nat) : beN 2 (p : Int) = [byteOf ((p / 256 : Nat) : Int), byteOf (p : Int)] := by
  have e1 : (p : Int) / 2 ^ (8 * 1) = ((p / 256 : Nat) : Int) := by
    have : (2 : Int) ^ (8 * 1) = 256 := rfl
    rw [this]; omega
  have e2 : (p : Int) / 2 ^ (8 * 0) = (p : Int) := by
    have : (2 : Int) ^ (8 * 0) = 1 := rfl
    rw [this]; omega
  show [byteOf ((p : Int) / 2 ^ (8 * 1)), byteOf ((p : Int) / 2 ^ (8 * 0))] = _
  rw [e1, e2]
theorem byteOf_mod (n : Nat) : (byteOf (n : Int)).toNat = n % 256 := by
  have := byteOf_toNat (n : Int)
  have h2 : ((byteOf (n : Int)).toNat : Int) = (n : Int) % 256 := by first | exact this.symm | exact this
  omega
theorem or_c000 {p : Nat} (h : p < 16384) : 49152 ||| p = 49152 + p := by
  have := Nat.shiftLeft_add_eq_or_of_lt (show p < 2 ^ 14 by omega) 3
  rw [Nat.shiftLeft_eq, show 3 * 2 ^ 14 = 49152 from rfl] at this
  omega

theorem wr_reads : ∀ (ls : List (List UInt8)) (b : List UInt8) (at_ : At), (∀ x ∈ ls, Lab x) → (∀ e ∈ at_, e.1.length ≤ (joinL ls).length → GoodE b e) →
    ∃ t, (wrLabels ls b at_).1 = b ++ t ∧ (∃ h, RN (b ++ t) b.length ls h (b ++ t).length ∧ h ≤ ls.length) ∧ ∀ e ∈ (wrLabels ls b at_).2, e ∈ at_ ∨ GoodE (b ++ t) e
  | [], b, at_, _, _ => by
    refine ⟨[0], rfl, ⟨0, ?_, Nat.le_refl _⟩, fun e he => .inl he⟩
    have : (b ++ [0])[b.length]? = some 0 := by rw [List.getElem?_append_right (Nat.le_refl _)]; simp
    have h := RN.zero this
    have e : (b ++ [(0 : UInt8)]).length = b.length + 1 := by simp
    rw [e]; exact h
  | x :: xs, b, at_, hl, hg => by
    have hsj := split_join (ls := x :: xs) (by simp) hl
    unfold wrLabels
    cases hlk : lookA at_ (joinL (x :: xs)) with
    | some p =>
      obtain ⟨h1, k, q, h2, h3⟩ := hg _ (lookA_mem hlk) (Nat.le_refl _)
      simp only at h1 h2 h3
      rw [hsj] at h2 h3
      have hlt := h2.lt
      refine ⟨beN 2 ((49152 ||| p : Nat) : Int), rfl, ⟨k + 1, ?_, h3⟩, fun e he => .inl he⟩
      rw [or_c000 h1, beN2]
      have e1 : (b ++ [byteOf (((49152 + p) / 256 : Nat) : Int), byteOf ((49152 + p : Nat) : Int)])[b.length]? = some (byteOf (((49152 + p) / 256 : Nat) : Int)) := by
        rw [List.getElem?_append_right (Nat.le_refl _)]; simp
      have e2 : (b ++ [byteOf (((49152 + p) / 256 : Nat) : Int), byteOf ((49152 + p : Nat) : Int)])[b.length + 1]? = some (byteOf ((49152 + p : Nat) : Int)) := by
        rw [List.getElem?_append_right (by omega)]; simp
      have h := RN.ptr (ls := x :: xs) (p := p) (h := k) (e := q) e1 (by rw [byteOf_mod]; omega) e2 (by rw [byteOf_mod, byteOf_mod]; omega) hlt (h2.app _)
      rwa [show (b ++ [byteOf (((49152 + p) / 256 : Nat) : Int), byteOf ((49152 + p : Nat) : Int)]).length = b.length + 2 by simp]
    | none =>
      simp only
      have hx := hl x (by simp)
      obtain ⟨t, h1, ⟨k, h2, h3⟩, h4⟩ := wr_reads xs (b ++ [byteOf (x.length : Nat)] ++ x) (if b.length < 16384 then at_ ++ [(joinL (x :: xs), b.length)] else at_) (fun y hy => hl y (by simp [hy])) (by
        intro e he hle
        have hsh := joinL_shorter (xs := xs) hx.1
        have key : e ∈ at_ → GoodE (b ++ [byteOf (x.length : Nat)] ++ x) e := fun h => by
          rw [List.append_assoc]; exact (hg e h (by omega)).app _
        split at he
        · rcases List.mem_append.1 he with h | h
          · exact key h
          · rw [List.mem_singleton.1 h] at hle; simp only at hle; omega
        · exact key he)
      have hne : (b ++ [byteOf (x.length : Nat)] ++ x).length = b.length + 1 + x.length := by simp; omega
      have hc : (b ++ [byteOf (x.length : Nat)] ++ x ++ t)[b.length]? = some (byteOf (x.length : Nat)) := by
        rw [List.append_assoc, List.append_assoc, List.getElem?_append_right (Nat.le_refl _)]; simp
      have hd : ((b ++ [byteOf (x.length : Nat)] ++ x ++ t).drop (b.length + 1)).take x.length = x := by
        have : (b ++ [byteOf (x.length : Nat)] ++ x ++ t).drop (b.length + 1) = x ++ t := by
          rw [List.append_assoc, List.drop_left' (by simp)]
        rw [this, List.take_left' rfl]
      rw [hne] at h2
      have hrn : RN (b ++ [byteOf (x.length : Nat)] ++ x ++ t) b.length (x :: xs) k (b ++ [byteOf (x.length : Nat)] ++ x ++ t).length := RN.lab hc (byteOf_small (by have := hx.2.1; omega)) hx.1 hx.2.1 hd h2
      refine ⟨[byteOf (x.length : Nat)] ++ x ++ t, by rw [h1]; simp, ⟨k, by simpa using hrn, by simp; omega⟩, fun e he => ?_⟩
      have e0 : b ++ ([byteOf (x.length : Nat)] ++ x ++ t) = b ++ [byteOf (x.length : Nat)] ++ x ++ t := by simp
      rw [e0]
      rcases h4 e he with h | h
      · split at h
        · rename_i hlt
          rcases List.mem_append.1 h with h5 | h5
          · exact .inl h5
          · rw [List.mem_singleton.1 h5]
            refine .inr ⟨hlt, k, (b ++ [byteOf (x.length : Nat)] ++ x ++ t).length, ?_, ?_⟩
            · simp only; rw [hsj]; exact hrn
            · simp only; rw [hsj]; simp; omega
        · exact .inl h
      · exact .inr h

/-- What is written behind bytes hangs on how many these are, and on the map. -/
theorem wr_ext : ∀ (ls : List (List UInt8)) (b b' : List UInt8) (at_ : At), b.length = b'.length → ∃ t at1, wrLabels ls b at_ = (b ++ t, at1) ∧ wrLabels ls b' at_ = (b' ++ t, at1)
  | [], b, b', at_, _ => ⟨[0], at_, rfl, rfl⟩
  | x :: xs, b, b', at_, h => by
    unfold wrLabels
    cases lookA at_ (joinL (x :: xs)) with
    | some p => exact ⟨_, _, rfl, rfl⟩
    | none =>
      simp only
      rw [← h]
      obtain ⟨t, at1, h1, h2⟩ := wr_ext xs (b ++ [byteOf (x.length : Nat)] ++ x) (b' ++ [byteOf (x.length : Nat)] ++ x) (if b.length < 16384 then at_ ++ [(joinL (x :: xs), b.length)] else at_) (by simp [h])
      exact ⟨[byteOf (x.length : Nat)] ++ x ++ t, at1, by rw [h1]; simp, by rw [h2]; simp⟩

def GoodAll (b : List UInt8) (at_ : At) : Prop := ∀ e ∈ at_, GoodE b e
theorem GoodAll.app {b : List UInt8} {at_ : At} (h : GoodAll b at_) (more : List UInt8) : GoodAll (b ++ more) at_ := fun e he => (h e he).app more
/-- A name written is read, whatever stands behind. -/
theorem name_reads {s b : List UInt8} {at_ : At} (hn : namesL s = true) (hk : (splitL s).length ≤ 16) (hg : GoodAll b at_) :
    ∃ t, (wrName s (b, at_)).1 = b ++ t ∧ GoodAll (b ++ t) (wrName s (b, at_)).2 ∧ ∀ more, rdName (b ++ t ++ more) 300 b.length 0 0 [] b.length = some (s, (b ++ t).length) := by
  obtain ⟨t, h1, ⟨h, h2, h3⟩, h4⟩ := wr_reads (splitL s) b at_ (names_lab hn) (fun e he _ => hg e he)
  refine ⟨t, h1, fun e he => ?_, fun more => ?_⟩
  · rcases h4 e he with h5 | h5
    · exact (hg e h5).app t
    · exact h5
  · have hw := wlen_split s
    have hl := names_len hn
    have := rd_of_RN (h2.app more) 300 0 0 [] b.length (by omega) (by omega) (by omega) (by rw [List.nil_append, names_lower hn, join_split]; exact hn)
    rw [this, List.nil_append, names_lower hn, join_split, if_pos rfl]
end Go.Proofs.YthcpjcgjmdfpjaaDoor
