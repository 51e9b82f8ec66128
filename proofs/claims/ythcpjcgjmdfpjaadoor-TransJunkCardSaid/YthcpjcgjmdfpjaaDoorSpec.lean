/- What the labels' functions compute, on lists of bytes: plain, no program in sight. -/
import Derived.Test.YthcpjcgjmdfpjaaDoorBase
namespace Go.Proofs.YthcpjcgjmdfpjaaDoor

/-- A capital turned small. -/
def low1 (c : UInt8) : UInt8 := if 65 ≤ c.toNat ∧ c.toNat ≤ 90 then c + 32 else c
def lower (s : List UInt8) : List UInt8 := s.map low1
/-- A sign of a label. -/
def okc (c : UInt8) : Bool := (48 ≤ c.toNat && c.toNat ≤ 57) || c.toNat == 45 || c.toNat == 95 || (97 ≤ (c ||| 32).toNat && (c ||| 32).toNat ≤ 122 && 65 ≤ c.toNat)
/-- A label that may be. -/
def rightL (s : List UInt8) : Bool := s != [] && s.length ≤ 63 && s.head? != some 45 && s.getLast? != some 45 && s.all okc
/-- A name's labels. -/
def splitL : List UInt8 → List (List UInt8)
  | [] => [[]]
  | c :: r => if c = 46 then [] :: splitL r else match splitL r with
    | [] => [[c]]
    | x :: xs => (c :: x) :: xs
def joinL : List (List UInt8) → List UInt8
  | [] => []
  | [x] => x
  | x :: y :: r => x ++ 46 :: joinL (y :: r)
/-- A name that goes out. -/
def namesL (s : List UInt8) : Bool := s.length ≤ 253 && lower s == s && (splitL s).all rightL

theorem low1_big {c : UInt8} (h1 : 65 ≤ c.toNat) (h2 : c.toNat ≤ 90) : low1 c = c + 32 ∧ (c + 32).toNat = c.toNat + 32 := by
  refine ⟨if_pos ⟨h1, h2⟩, ?_⟩
  rw [UInt8.toNat_add]; simp; omega
theorem low1_not {c : UInt8} (h : ¬ (65 ≤ c.toNat ∧ c.toNat ≤ 90)) : low1 c = c := if_neg h

theorem lower_length (s : List UInt8) : (lower s).length = s.length := by simp [lower]

/-- The signs up to a place turned small, the others as they are. -/
def lowTo (s : List UInt8) (j : Nat) : List UInt8 := lower (s.take j) ++ s.drop j
theorem lowTo_zero (s : List UInt8) : lowTo s 0 = s := by simp [lowTo, lower]
theorem lowTo_all (s : List UInt8) : lowTo s s.length = lower s := by simp [lowTo]
theorem lowTo_length (s : List UInt8) (j : Nat) : (lowTo s j).length = s.length := by simp [lowTo, lower_length]; omega
theorem lowTo_at {s : List UInt8} {j : Nat} {c : UInt8} (h : s[j]? = some c) : (lowTo s j)[j]? = some c := by
  have hlt := (List.getElem?_eq_some_iff.1 h).1
  simp only [lowTo]
  rw [List.getElem?_append_right (by simp [lower_length]; omega)]
  simp only [lower_length, List.length_take, List.getElem?_drop]
  rw [show j + (j - min j s.length) = j by omega]; exact h
theorem lowTo_succ {s : List UInt8} {j : Nat} {c : UInt8} (h : s[j]? = some c) : lowTo s (j + 1) = (lowTo s j).set j (low1 c) := by
  have hlt := (List.getElem?_eq_some_iff.1 h).1
  have hv := (List.getElem?_eq_some_iff.1 h).2
  apply List.ext_getElem?
  intro k
  rw [List.getElem?_set]
  simp only [lowTo, lower, List.map_take]
  by_cases hk : j = k
  · subst hk
    rw [if_pos rfl, List.getElem?_append_left (by simp; omega)]
    simp [hlt, hv]
    omega
  · rw [if_neg hk]
    by_cases h2 : k < j
    · rw [List.getElem?_append_left (by simp; omega), List.getElem?_append_left (by simp; omega)]
      simp [show k < j + 1 by omega, h2]
    · rw [List.getElem?_append_right (by simp; omega), List.getElem?_append_right (by simp; omega)]
      simp only [List.length_take, List.length_map, List.getElem?_drop]
      congr 1; omega

end Go.Proofs.YthcpjcgjmdfpjaaDoor
namespace Go.Proofs.YthcpjcgjmdfpjaaDoor
/-- Signs ahead of the first label. -/
def ph (cur : List UInt8) : List (List UInt8) → List (List UInt8)
  | [] => [cur]
  | x :: xs => (cur ++ x) :: xs
theorem splitL_ne (s : List UInt8) : splitL s ≠ [] := by
  cases s with
  | nil => simp [splitL]
  | cons c r =>
    unfold splitL
    split
    · simp
    · split <;> simp
theorem ph_nil {l : List (List UInt8)} (h : l ≠ []) : ph [] l = l := by
  cases l with
  | nil => exact absurd rfl h
  | cons x xs => rfl
theorem splitL_dot (r : List UInt8) : splitL (46 :: r) = [] :: splitL r := by simp [splitL]
theorem splitL_sign {c : UInt8} (h : c ≠ 46) (r : List UInt8) : splitL (c :: r) = ph [c] (splitL r) := by
  simp only [splitL, if_neg h]
  cases splitL r <;> rfl
theorem ph_ph (a b : List UInt8) (l : List (List UInt8)) : ph a (ph b l) = ph (a ++ b) l := by
  cases l with
  | nil => rfl
  | cons x xs => simp [ph]
/-- What Split has gathered at place j, of the label that begins at 'from'. -/
def SplitAt (s : List UInt8) (done : List (List UInt8)) (fr j : Nat) : Prop :=
  fr ≤ j ∧ splitL s = done ++ ph ((s.take j).drop fr) (splitL (s.drop j))
theorem SplitAt.start (s : List UInt8) : SplitAt s [] 0 0 := ⟨Nat.le_refl _, by simp [ph_nil (splitL_ne s)]⟩
theorem SplitAt.sign {s : List UInt8} {done : List (List UInt8)} {fr j : Nat} {c : UInt8} (h : SplitAt s done fr j) (hc : s[j]? = some c) (hne : c ≠ 46) : SplitAt s done fr (j + 1) := by
  obtain ⟨h1, h2⟩ := h
  have hlt := (List.getElem?_eq_some_iff.1 hc).1
  have hv := (List.getElem?_eq_some_iff.1 hc).2
  refine ⟨by omega, ?_⟩
  rw [h2, List.drop_eq_getElem_cons hlt, hv, splitL_sign hne, ph_ph, List.take_succ_eq_append_getElem hlt, hv, List.drop_append_of_le_length (by simp; omega)]
theorem SplitAt.dot {s : List UInt8} {done : List (List UInt8)} {fr j : Nat} (h : SplitAt s done fr j) (hc : s[j]? = some 46) : SplitAt s (done ++ [(s.take j).drop fr]) (j + 1) (j + 1) := by
  obtain ⟨h1, h2⟩ := h
  have hlt := (List.getElem?_eq_some_iff.1 hc).1
  have hv := (List.getElem?_eq_some_iff.1 hc).2
  refine ⟨by omega, ?_⟩
  rw [h2, List.drop_eq_getElem_cons hlt, hv, splitL_dot]
  have : (s.take (j + 1)).drop (j + 1) = [] := List.drop_of_length_le (by simp; omega)
  rw [this, ph_nil (splitL_ne _)]
  simp [ph]
theorem SplitAt.last {s : List UInt8} {done : List (List UInt8)} {fr : Nat} (h : SplitAt s done fr s.length) : done ++ [(s.take s.length).drop fr] = splitL s := by
  rw [h.2]; simp [ph, splitL]
end Go.Proofs.YthcpjcgjmdfpjaaDoor
namespace Go.Proofs.YthcpjcgjmdfpjaaDoor
theorem joinL_snoc : ∀ (l : List (List UInt8)) (x : List UInt8), joinL (l ++ [x]) = if l = [] then x else joinL l ++ 46 :: x
  | [], x => by simp [joinL]
  | [a], x => by simp [joinL]
  | a :: b :: r, x => by
    have := joinL_snoc (b :: r) x
    simp only [List.cons_append, joinL] at this ⊢
    rw [this]
    simp
theorem joinL_le (l : List (List UInt8)) : ∀ r : List (List UInt8), (joinL l).length ≤ (joinL (l ++ r)).length
  | [] => by simp
  | x :: r => by
    have h1 := joinL_le (l ++ [x]) r
    rw [List.append_assoc] at h1
    refine Nat.le_trans ?_ h1
    rw [joinL_snoc]
    split
    · rename_i h; subst h; simp [joinL]
    · simp
termination_by r => r.length
theorem joinL_take {ls : List (List UInt8)} {j : Nat} {x : List UInt8} (h : ls[j]? = some x) : joinL (ls.take (j + 1)) = if j = 0 then x else joinL (ls.take j) ++ 46 :: x := by
  have hlt := (List.getElem?_eq_some_iff.1 h).1
  have hv := (List.getElem?_eq_some_iff.1 h).2
  rw [List.take_succ_eq_append_getElem hlt, hv, joinL_snoc]
  by_cases e : j = 0
  · subst e; simp
  · have : ls.take j ≠ [] := by
      intro h0
      have := congrArg List.length h0
      rw [List.length_take, List.length_nil] at this
      omega
    rw [if_neg this, if_neg e]
theorem joinL_take_le (ls : List (List UInt8)) (j : Nat) : (joinL (ls.take j)).length ≤ (joinL ls).length := by
  have := joinL_le (ls.take j) (ls.drop j)
  rwa [List.take_append_drop] at this
end Go.Proofs.YthcpjcgjmdfpjaaDoor
namespace Go.Proofs.YthcpjcgjmdfpjaaDoor
theorem rightL_false {s : List UInt8} (h : s = [] ∨ 63 < s.length ∨ s[0]? = some 45 ∨ s[s.length - 1]? = some 45 ∨ ∃ (j : Nat) (c : UInt8), s[j]? = some c ∧ okc c = false) : rightL s = false := by
  unfold rightL
  rcases h with h | h | h | h | ⟨j, c, hc, ho⟩
  · simp [h]
  · have : ¬ s.length ≤ 63 := by omega
    simp [this]
  · have : s.head? = some 45 := by rw [List.head?_eq_getElem?]; exact h
    simp [this]
  · have : s.getLast? = some 45 := by rw [List.getLast?_eq_getElem?]; exact h
    simp [this]
  · have : s.all okc = false := by
      rw [List.all_eq_false]
      exact ⟨c, List.mem_of_getElem? hc, by simp [ho]⟩
    simp [this]
theorem rightL_true {s : List UInt8} (h0 : ¬ s = []) (h1 : s.length ≤ 63) (h2 : ¬ s[0]? = some 45) (h3 : ¬ s[s.length - 1]? = some 45) (h4 : ∀ (j : Nat) (c : UInt8), s[j]? = some c → okc c = true) : rightL s = true := by
  unfold rightL
  have e2 : ¬ s.head? = some 45 := by rw [List.head?_eq_getElem?]; exact h2
  have e3 : ¬ s.getLast? = some 45 := by rw [List.getLast?_eq_getElem?]; exact h3
  have e4 : s.all okc = true := by
    rw [List.all_eq_true]
    intro c hc
    obtain ⟨j, hj⟩ := List.getElem?_of_mem hc
    exact h4 j c hj
  simp [h0, h1, e2, e3, e4]
theorem okc_step {s : List UInt8} {j : Nat} {c : UInt8} (h : ∀ (k : Nat) (d : UInt8), k < j → s[k]? = some d → okc d = true) (hc : s[j]? = some c) (ho : okc c = true) : ∀ (k : Nat) (d : UInt8), k < j + 1 → s[k]? = some d → okc d = true := by
  intro k d hk hd
  by_cases e : k = j
  · subst e; rw [hc] at hd; obtain rfl := Option.some.inj hd; exact ho
  · exact h k d (by omega) hd
end Go.Proofs.YthcpjcgjmdfpjaaDoor
namespace Go.Proofs.YthcpjcgjmdfpjaaDoor
theorem namesL_false {s : List UInt8} (h : 253 < s.length ∨ ¬ lower s = s ∨ ∃ (j : Nat) (x : List UInt8), (splitL s)[j]? = some x ∧ rightL x = false) : namesL s = false := by
  unfold namesL
  rcases h with h | h | ⟨j, x, hx, hr⟩
  · have : ¬ s.length ≤ 253 := by omega
    simp [this]
  · simp [h]
  · have : (splitL s).all rightL = false := by
      rw [List.all_eq_false]
      exact ⟨x, List.mem_of_getElem? hx, by simp [hr]⟩
    simp [this]
theorem namesL_true {s : List UInt8} (h1 : s.length ≤ 253) (h2 : lower s = s) (h3 : ∀ (j : Nat) (x : List UInt8), (splitL s)[j]? = some x → rightL x = true) : namesL s = true := by
  unfold namesL
  have : (splitL s).all rightL = true := by
    rw [List.all_eq_true]
    intro x hx
    obtain ⟨j, hj⟩ := List.getElem?_of_mem hx
    exact h3 j x hj
  simp [this, h1, h2]
theorem all_step {ls : List (List UInt8)} {j : Nat} {x : List UInt8} (h : ∀ (k : Nat) (d : List UInt8), k < j → ls[k]? = some d → rightL d = true) (hc : ls[j]? = some x) (ho : rightL x = true) : ∀ (k : Nat) (d : List UInt8), k < j + 1 → ls[k]? = some d → rightL d = true := by
  intro k d hk hd
  by_cases e : k = j
  · subst e; rw [hc] at hd; obtain rfl := Option.some.inj hd; exact ho
  · exact h k d (by omega) hd
theorem ph_length (a : List UInt8) {l : List (List UInt8)} (h : l ≠ []) : (ph a l).length = l.length := by
  cases l with
  | nil => exact absurd rfl h
  | cons x xs => rfl
theorem splitL_length (s : List UInt8) : (splitL s).length ≤ s.length + 1 := by
  induction s with
  | nil => simp [splitL]
  | cons c r ih =>
    by_cases e : c = 46
    · subst e; rw [splitL_dot]; simp; omega
    · rw [splitL_sign e, ph_length _ (splitL_ne r)]; simp; omega
theorem splitL_mem_length (s : List UInt8) : ∀ x ∈ splitL s, x.length ≤ s.length := by
  induction s with
  | nil => simp [splitL]
  | cons c r ih =>
    intro x hx
    by_cases e : c = 46
    · subst e; rw [splitL_dot] at hx
      rcases List.mem_cons.1 hx with rfl | h
      · simp
      · have := ih x h; simp; omega
    · rw [splitL_sign e] at hx
      cases hr : splitL r with
      | nil => exact absurd hr (splitL_ne r)
      | cons y ys =>
        rw [hr] at hx ih
        simp only [ph] at hx
        rcases List.mem_cons.1 hx with rfl | h
        · have := ih y (by simp); simp; omega
        · have := ih x (by simp [h]); simp; omega
theorem splitL_label {s : List UInt8} {j : Nat} {x : List UInt8} (h : (splitL s)[j]? = some x) : x.length ≤ s.length := splitL_mem_length s x (List.mem_of_getElem? h)
end Go.Proofs.YthcpjcgjmdfpjaaDoor
