/- What the reader makes of a record's bytes: plain. -/
import Derived.Test.YthcpjcgjmdfpjaaDoorAll
import Derived.Test.YthcpjcgjmdfpjaaDoorRName
import Derived.Test.YthcpjcgjmdfpjaaDoorNum
namespace Go.Proofs.YthcpjcgjmdfpjaaDoor
open Go Go.RowKit

/-- What stands behind a record's head: data from place a on, n bytes of them. -/
def recBody (bs : List UInt8) (nm : List UInt8) (ty : Nat) (ttl : Int) (a n : Nat) : Option Rec :=
  if ty = 1 ∧ n = 4 then some ⟨nm, ty, ttl, mappedL ++ (bs.drop a).take n, [], []⟩
  else if ty = 28 ∧ n = 16 then some ⟨nm, ty, ttl, (bs.drop a).take n, [], []⟩
  else if ty = 2 ∨ ty = 5 ∨ ty = 12 then
    match rdName bs 300 a 0 0 [] a with
    | some (t, e) => if e = a + n then some ⟨nm, ty, ttl, zero16, t, []⟩ else none
    | none => none
  else some ⟨nm, ty, ttl, zero16, [], (bs.drop a).take n⟩
def ttlOf (n : Nat) : Int := if (1048576 : Int) < (n : Int) then 1048576 else (n : Int)
/-- Only if it may be a record. -/
def finR (res : Option Rec) (e : Nat) : Option (Rec × Nat) :=
  match res with
  | none => none
  | some r => if rightR r then some (r, e) else none
/-- A record read at a place, and where the reader goes on. -/
def readRec (bs : List UInt8) (a : Nat) : Option (Rec × Nat) :=
  match rdName bs 300 a 0 0 [] a with
  | none => none
  | some (nm, a1) =>
    if bs.length < a1 + 10 then none
    else if beNat ((bs.drop (a1 + 2)).take 2) ≠ 1 then none
    else if bs.length < a1 + 10 + beNat ((bs.drop (a1 + 8)).take 2) then none
    else finR (recBody bs nm (beNat ((bs.drop a1).take 2)) (ttlOf (beNat ((bs.drop (a1 + 4)).take 4))) (a1 + 10) (beNat ((bs.drop (a1 + 8)).take 2))) (a1 + 10 + beNat ((bs.drop (a1 + 8)).take 2))

/-- What a record's reading leaves. -/
def RecRes (res : Option (Rec × Nat)) (r : Rec) (a : Nat) (bad : Bool) : Prop :=
  match res with
  | some (r0, a0) => r = r0 ∧ a = a0 ∧ bad = false
  | none => bad = true

theorem numR_cases {bs : List UInt8} {n a : Nat} {b : Bool} {v a' : Nat} {b' : Bool} (h : numR bs n a b = (v, a', b')) :
    (b' = true ∧ v = 0 ∧ a' = a ∧ (b = true ∨ bs.length < a + n)) ∨ (b' = false ∧ b = false ∧ a + n ≤ bs.length ∧ a' = a + n ∧ v = beNat ((bs.drop a).take n)) := by
  unfold numR at h
  split at h
  · rename_i hc
    injection h with h1 h; injection h with h2 h3
    exact .inl ⟨h3.symm, h1.symm, h2.symm, hc⟩
  · rename_i hc
    injection h with h1 h; injection h with h2 h3
    refine .inr ⟨h3.symm, ?_, by omega, h2.symm, h1.symm⟩
    cases b with
    | true => exact absurd (.inl rfl) hc
    | false => rfl
theorem numR_lt {bs : List UInt8} {n a : Nat} {b : Bool} {v a' : Nat} {b' : Bool} (h : numR bs n a b = (v, a', b')) (hn : n ≤ 4) : v < 4294967296 := by
  rcases numR_cases h with ⟨_, rfl, _⟩ | ⟨_, _, _, _, rfl⟩
  · decide
  · exact beNat_take_lt _ hn
theorem numR_lt2 {bs : List UInt8} {a : Nat} {b : Bool} {v a' : Nat} {b' : Bool} (h : numR bs 2 a b = (v, a', b')) : v < 65536 := by
  rcases numR_cases h with ⟨_, rfl, _⟩ | ⟨_, _, _, _, rfl⟩
  · decide
  · have := beNat_lt ((bs.drop a).take 2)
    refine Nat.lt_of_lt_of_le this ?_
    exact Nat.pow_le_pow_right (by decide) (List.length_take_le _ _)

/-- The reader is not bad just if it stands in its bytes. -/
def In (bs : List UInt8) (a : Nat) (b : Bool) : Prop := b = false → a ≤ bs.length
theorem numR_in {bs : List UInt8} {n a : Nat} {b : Bool} {v a' : Nat} {b' : Bool} (h : numR bs n a b = (v, a', b')) : In bs a' b' := by
  rcases numR_cases h with ⟨rfl, _⟩ | ⟨rfl, _, h1, rfl, _⟩
  · intro h; cases h
  · intro _; exact h1

theorem rdName_le (bs : List UInt8) : ∀ (f a hops size : Nat) (acc : List (List UInt8)) (r : Nat) (s : List UInt8) (e : Nat), (hops ≠ 0 → r ≤ bs.length) → rdName bs f a hops size acc r = some (s, e) → e ≤ bs.length := by
  intro f
  induction f with
  | zero => intro a hops size acc r s e _ h; cases h
  | succ f ih =>
    intro a hops size acc r s e hr h
    rw [rdName] at h
    cases hc : bs[a]? with
    | none => rw [hc] at h; cases h
    | some c =>
      have hlt := (List.getElem?_eq_some_iff.1 hc).1
      rw [hc] at h
      simp only at h
      split at h
      · split at h
        · injection h with h; injection h with h1 h2
          split at h2
          · omega
          · rename_i h3; have := hr h3; omega
        · cases h
      · split at h
        · cases hc2 : bs[a + 1]? with
          | none => rw [hc2] at h; cases h
          | some c2 =>
            have hlt2 := (List.getElem?_eq_some_iff.1 hc2).1
            rw [hc2] at h
            simp only at h
            split at h
            · cases h
            · split at h
              · cases h
              · refine ih _ _ _ _ _ _ _ (fun _ => ?_) h
                split
                · omega
                · rename_i h3; exact hr h3
        · split at h
          · cases h
          · exact ih _ _ _ _ _ _ _ hr h
theorem nres_in {bs : List UInt8} {a : Nat} {bad : Bool} {s : List UInt8} {a' : Nat} {b' : Bool} (h : if bad = true then NameRes none s a' b' else NameRes (rdName bs 300 a 0 0 [] a) s a' b') : In bs a' b' := by
  intro hb
  subst hb
  split at h
  · cases h.2
  · cases hr : rdName bs 300 a 0 0 [] a with
    | none => rw [hr] at h; cases h.2
    | some p =>
      obtain ⟨s0, a0⟩ := p
      rw [hr] at h
      obtain ⟨_, rfl, _⟩ := h
      exact rdName_le bs 300 a 0 0 [] a s0 a' (fun h => absurd rfl h) hr
theorem nres_ok {bs : List UInt8} {a : Nat} {bad : Bool} {s : List UInt8} {a' : Nat} (h : if bad = true then NameRes none s a' false else NameRes (rdName bs 300 a 0 0 [] a) s a' false) : bad = false ∧ rdName bs 300 a 0 0 [] a = some (s, a') := by
  split at h
  · cases h.2
  · rename_i hb
    refine ⟨by simpa using hb, ?_⟩
    cases hr : rdName bs 300 a 0 0 [] a with
    | none => rw [hr] at h; cases h.2
    | some p =>
      obtain ⟨s0, a0⟩ := p
      rw [hr] at h
      obtain ⟨rfl, rfl, _⟩ := h
      rfl
theorem nres_no {bs : List UInt8} {a : Nat} {bad : Bool} {s : List UInt8} {a' : Nat} (h : if bad = true then NameRes none s a' true else NameRes (rdName bs 300 a 0 0 [] a) s a' true) : bad = true ∨ rdName bs 300 a 0 0 [] a = none := by
  split at h
  · rename_i hb; exact .inl hb
  · cases hr : rdName bs 300 a 0 0 [] a with
    | none => exact .inr rfl
    | some p =>
      obtain ⟨s0, a0⟩ := p
      rw [hr] at h
      cases h.2.2

section
variable {bs : List UInt8} {a : Nat} {bad : Bool} {s : List UInt8} {a1 a2 a3 a4 a5 v2 v3 v4 v5 : Nat} {b1 b2 b3 b4 b5 : Bool}
theorem chain_ok (h1 : if bad = true then NameRes none s a1 b1 else NameRes (rdName bs 300 a 0 0 [] a) s a1 b1) (e2 : numR bs 2 a1 b1 = (v2, a2, b2)) (e3 : numR bs 2 a2 b2 = (v3, a3, b3)) (e4 : numR bs 4 a3 b3 = (v4, a4, b4)) (e5 : numR bs 2 a4 b4 = (v5, a5, b5)) (hb : b5 = false) :
    bad = false ∧ rdName bs 300 a 0 0 [] a = some (s, a1) ∧ a1 + 10 ≤ bs.length ∧ a5 = a1 + 10 ∧ v2 = beNat ((bs.drop a1).take 2) ∧ v3 = beNat ((bs.drop (a1 + 2)).take 2) ∧ v4 = beNat ((bs.drop (a1 + 4)).take 4) ∧ v5 = beNat ((bs.drop (a1 + 8)).take 2) := by
  subst hb
  rcases numR_cases e5 with ⟨h, _⟩ | ⟨_, rfl, h5, rfl, rfl⟩
  · cases h
  rcases numR_cases e4 with ⟨h, _⟩ | ⟨_, rfl, h4, rfl, rfl⟩
  · cases h
  rcases numR_cases e3 with ⟨h, _⟩ | ⟨_, rfl, h3, rfl, rfl⟩
  · cases h
  rcases numR_cases e2 with ⟨h, _⟩ | ⟨_, rfl, h2, rfl, rfl⟩
  · cases h
  obtain ⟨rfl, hn⟩ := nres_ok h1
  exact ⟨rfl, hn, by omega, by omega, rfl, rfl, rfl, rfl⟩
theorem chain_bad (h1 : if bad = true then NameRes none s a1 b1 else NameRes (rdName bs 300 a 0 0 [] a) s a1 b1) (e2 : numR bs 2 a1 b1 = (v2, a2, b2)) (e3 : numR bs 2 a2 b2 = (v3, a3, b3)) (e4 : numR bs 4 a3 b3 = (v4, a4, b4)) (e5 : numR bs 2 a4 b4 = (v5, a5, b5)) (hb : b5 = true ∨ (b5 = false ∧ v3 ≠ 1) ∨ (b5 = false ∧ bs.length < a5 + v5)) :
    (if bad = true then none else readRec bs a) = none := by
  cases b5 with
  | false =>
    obtain ⟨rfl, hn, hl, rfl, rfl, rfl, rfl, rfl⟩ := chain_ok h1 e2 e3 e4 e5 rfl
    rw [if_neg (by simp), readRec, hn]
    simp only
    rw [if_neg (by omega)]
    rcases hb with h | ⟨_, h⟩ | ⟨_, h⟩
    · cases h
    · rw [if_pos h]
    · split <;> first | rfl | (rw [if_pos h])
  | true =>
    cases bad with
    | true => rfl
    | false =>
      rw [if_neg (by simp), readRec]
      cases hr : rdName bs 300 a 0 0 [] a with
      | none => rfl
      | some p =>
        obtain ⟨s0, a0⟩ := p
        rw [if_neg (by simp), hr] at h1
        obtain ⟨rfl, rfl, rfl⟩ := h1
        simp only
        rw [if_pos]
        rcases numR_cases e5 with ⟨_, _, rfl, h5⟩ | ⟨h, _⟩
        · rcases numR_cases e4 with ⟨_, _, rfl, h4⟩ | ⟨rfl, rfl, h4, rfl, _⟩
          · rcases numR_cases e3 with ⟨_, _, rfl, h3⟩ | ⟨rfl, rfl, h3, rfl, _⟩
            · rcases numR_cases e2 with ⟨_, _, rfl, h2⟩ | ⟨rfl, h2, _, rfl, _⟩
              · rcases h2 with h | h
                · cases h
                · omega
              · rcases h3 with h | h
                · cases h
                · omega
            · rcases numR_cases e2 with ⟨h, _⟩ | ⟨_, _, h2, rfl, _⟩
              · cases h
              · rcases h4 with h | h
                · cases h
                · omega
          · rcases numR_cases e3 with ⟨h, _⟩ | ⟨_, rfl, h3, rfl, _⟩
            · cases h
            · rcases numR_cases e2 with ⟨h, _⟩ | ⟨_, _, h2, rfl, _⟩
              · cases h
              · rcases h5 with h | h
                · cases h
                · omega
        · cases h
/-- A record whose head is right. -/
theorem readRec_body (hn : rdName bs 300 a 0 0 [] a = some (s, a1)) (hl : a1 + 10 ≤ bs.length) (hc : beNat ((bs.drop (a1 + 2)).take 2) = 1) (h2 : a1 + 10 + beNat ((bs.drop (a1 + 8)).take 2) ≤ bs.length) :
    readRec bs a = finR (recBody bs s (beNat ((bs.drop a1).take 2)) (ttlOf (beNat ((bs.drop (a1 + 4)).take 4))) (a1 + 10) (beNat ((bs.drop (a1 + 8)).take 2))) (a1 + 10 + beNat ((bs.drop (a1 + 8)).take 2)) := by
  rw [readRec, hn]
  simp only
  rw [if_neg (by omega), if_neg (by simp [hc]), if_neg (by omega)]
theorem readRec_le {r : Rec} {e : Nat} (h : readRec bs a = some (r, e)) : e ≤ bs.length ∧ r.addr.length = 16 ∧ rightR r = true := by
  unfold readRec at h
  cases hr : rdName bs 300 a 0 0 [] a with
  | none => rw [hr] at h; cases h
  | some p =>
    obtain ⟨s0, a0⟩ := p
    rw [hr] at h
    simp only at h
    split at h
    · cases h
    · split at h
      · cases h
      · split at h
        · cases h
        · rename_i h1 h2 h3
          cases hb : recBody bs s0 (beNat ((bs.drop a0).take 2)) (ttlOf (beNat ((bs.drop (a0 + 4)).take 4))) (a0 + 10) (beNat ((bs.drop (a0 + 8)).take 2)) with
          | none => rw [hb] at h; cases h
          | some r0 =>
            rw [hb] at h
            simp only [finR] at h
            split at h
            · rename_i hrr
              injection h with h; injection h with h4 h5
              subst h4
              refine ⟨by omega, ?_, hrr⟩
              unfold recBody at hb
              split at hb
              · rename_i hq; obtain rfl := Option.some.inj hb
                simp only [List.length_append, List.length_take, List.length_drop, mappedL, List.length_cons, List.length_nil]
                omega
              · split at hb
                · rename_i hq; obtain rfl := Option.some.inj hb
                  simp only [List.length_take, List.length_drop]
                  omega
                · split at hb
                  · split at hb
                    · split at hb
                      · obtain rfl := Option.some.inj hb; rfl
                      · cases hb
                    · cases hb
                  · obtain rfl := Option.some.inj hb; rfl
            · cases h
end

/-- (*reader).num, in any state. -/
theorem num_st (rb : Nat) (A : Option Addr) (m c : Nat) (bs : List UInt8) (n a : Nat) (bad : Bool) (w : World) (hR : RSt w rb A m c a bad) (hS : Src w A m c bs) (hn : n ≤ 4) (hn0 : 0 < n) (ha : In bs a bad) (hm : m ≤ 1099511627776) :
    Calls Tryd.prog 45 #[.pointer (some ⟨rb, 0, none⟩), .int .i64 n] w fun e w' => ∃ v a' b', numR bs n a bad = (v, a', b') ∧ e = .returned (.int .i64 (v : Nat)) ∧ RSt w' rb A m c a' b' ∧ Chg (fun k => k = rb) w w' := by
  have key : Calls Tryd.prog 45 #[.pointer (some ⟨rb, 0, none⟩), .int .i64 n] w fun e w' => e = .returned (.int .i64 ((numR bs n a bad).1 : Nat)) ∧ RSt w' rb A m c (numR bs n a bad).2.1 (numR bs n a bad).2.2 ∧ Chg (fun k => k = rb) w w' := by
    cases bad with
    | true => exact num_bad rb A m c bs n a w hR
    | false => exact num_any rb A m c bs n a false w hR hS hn hn0 (by have := ha rfl; have := hS.len; omega) hm
  refine key.mono ?_
  rintro e w' ⟨rfl, h1, h2⟩
  exact ⟨_, _, _, rfl, rfl, h1, h2⟩
/-- (*reader).name, in any state. -/
theorem rname_st (rb : Nat) (A : Option Addr) (mm c : Nat) (bs : List UInt8) (a : Nat) (bad : Bool) (w : World) (hR : RSt w rb A mm c a bad) (hS : Src w A mm c bs) (hg : ∀ g o, A = some ⟨g, o, none⟩ → g ≠ rb) (ha : In bs a bad) (hm : mm ≤ 1099511627776) :
    Calls Tryd.prog 46 #[.pointer (some ⟨rb, 0, none⟩)] w fun e w' => ∃ s a' bad', e = .returned (sv s) ∧ RSt w' rb A mm c a' bad' ∧ Chg (fun k => k = rb) w w' ∧ (if bad = true then NameRes none s a' bad' else NameRes (rdName bs 300 a 0 0 [] a) s a' bad') ∧ s.length ≤ 253 := by
  have key : Calls Tryd.prog 46 #[.pointer (some ⟨rb, 0, none⟩)] w fun e w' => ∃ s a' bad', e = .returned (sv s) ∧ RSt w' rb A mm c a' bad' ∧ Chg (fun k => k = rb) w w' ∧ (if bad = true then NameRes none s a' bad' else NameRes (rdName bs 300 a 0 0 [] a) s a' bad') := by
    cases bad with
    | true =>
      refine (rname_bad rb A mm c a w hR).mono ?_
      rintro e w' ⟨rfl, h1, h2⟩
      exact ⟨_, _, _, rfl, h1, h2, rfl, rfl⟩
    | false =>
      refine (rname_ok rb A mm c bs a w _ hR hS hg (by have := ha rfl; have := hS.len; omega) hm (Array.getElem?_eq_some_iff.1 hR).1 rfl).mono ?_
      rintro e w' ⟨s, a', bad', rfl, h1, h2, h3⟩
      exact ⟨s, a', bad', rfl, h1, h2, by simpa using h3⟩
  refine key.mono ?_
  rintro e w' ⟨s, a', bad', rfl, h1, h2, h3⟩
  refine ⟨s, a', bad', rfl, h1, h2, h3, ?_⟩
  have hnm : ∀ (f a hops size : Nat) (acc : List (List UInt8)) (r : Nat) (s : List UInt8) (e : Nat), rdName bs f a hops size acc r = some (s, e) → s.length ≤ 253 := by
    intro f
    induction f with
    | zero => intro a hops size acc r s e h; cases h
    | succ f ih =>
      intro a hops size acc r s e h
      rw [rdName] at h
      cases hc : bs[a]? with
      | none => rw [hc] at h; cases h
      | some c =>
        rw [hc] at h
        simp only at h
        split at h
        · split at h
          · rename_i hn
            injection h with h; injection h with h1 h2
            subst h1
            unfold namesL at hn
            simp only [Bool.and_eq_true, decide_eq_true_eq] at hn
            exact hn.1.1
          · cases h
        · split at h
          · cases hc2 : bs[a + 1]? with
            | none => rw [hc2] at h; cases h
            | some c2 =>
              rw [hc2] at h
              simp only at h
              split at h
              · cases h
              · split at h
                · cases h
                · exact ih _ _ _ _ _ _ _ h
          · split at h
            · cases h
            · exact ih _ _ _ _ _ _ _ h
  cases bad' with
  | true =>
    have : s = [] := by
      split at h3
      · exact h3.1
      · cases hr : rdName bs 300 a 0 0 [] a with
        | none => rw [hr] at h3; exact h3.1
        | some p => obtain ⟨s0, a0⟩ := p; rw [hr] at h3; cases h3.2.2
    subst this; simp
  | false => exact hnm _ _ _ _ _ _ _ _ (nres_ok h3).2
end Go.Proofs.YthcpjcgjmdfpjaaDoor
