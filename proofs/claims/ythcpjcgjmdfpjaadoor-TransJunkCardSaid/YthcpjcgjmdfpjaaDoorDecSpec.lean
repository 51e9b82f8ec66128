/- What the reader makes of a message's bytes: plain. -/
import Derived.Test.YthcpjcgjmdfpjaaDoorRRec
namespace Go.Proofs.YthcpjcgjmdfpjaaDoor
open Go Go.RowKit
set_option maxRecDepth 100000

/-- So many records, one behind the other. -/
def readRecs (bs : List UInt8) : Nat → Nat → Option (List Rec × Nat)
  | 0, a => some ([], a)
  | k + 1, a => match readRec bs a with
    | none => none
    | some (r, a1) => match readRecs bs k a1 with
      | none => none
      | some (rs, e) => some (r :: rs, e)
/-- What is to come, from a state of the reader. -/
def recsSt (bs : List UInt8) (k a : Nat) (b : Bool) (rs : List Rec) : Option (List Rec × Nat) :=
  if b = true then none else match readRecs bs k a with
    | none => none
    | some (q, e) => some (rs ++ q, e)
theorem recs_step {bs : List UInt8} {k a a2 : Nat} {b b2 : Bool} {rs : List Rec} {r : Rec} (h : RecRes (if b = true then none else readRec bs a) r a2 b2) : recsSt bs (k + 1) a b rs = recsSt bs k a2 b2 (rs ++ [r]) := by
  unfold recsSt
  cases b with
  | true => rw [if_pos rfl] at h; obtain rfl : b2 = true := h; rfl
  | false =>
    rw [if_neg (by simp)] at h ⊢
    cases hr : readRec bs a with
    | none => rw [hr] at h; obtain rfl : b2 = true := h; rw [readRecs, hr]; rfl
    | some p =>
      obtain ⟨r0, a0⟩ := p
      rw [hr] at h
      obtain ⟨rfl, rfl, rfl⟩ := h
      rw [if_neg (by simp), readRecs, hr]
      simp only
      cases readRecs bs k a2 with
      | none => rfl
      | some q => obtain ⟨q, e⟩ := q; simp
theorem recs_zero (bs : List UInt8) (a : Nat) (b : Bool) (rs : List Rec) : recsSt bs 0 a b rs = if b = true then none else some (rs, a) := by
  unfold recsSt
  simp [readRecs]

def finM (m : Msg) : Option Msg := if allM m then some m else none
/-- The message that bytes are. -/
def decode (bs : List UInt8) : Option Msg :=
  if bs.length < 12 then none
  else if 0 < beNat ((bs.drop 2).take 2) &&& 30720 then none
  else if beNat ((bs.drop 4).take 2) ≠ 1 then none
  else if 32 < beNat ((bs.drop 6).take 2) + beNat ((bs.drop 8).take 2) then none
  else match rdName bs 300 12 0 0 [] 12 with
    | none => none
    | some (nm, a) =>
      if bs.length < a + 4 then none
      else if beNat ((bs.drop (a + 2)).take 2) ≠ 1 then none
      else match readRecs bs (beNat ((bs.drop 6).take 2)) (a + 4) with
        | none => none
        | some (an, a2) => match readRecs bs (beNat ((bs.drop 8).take 2)) a2 with
          | none => none
          | some (au, _) => finM ⟨beNat (bs.take 2), decide (0 < beNat ((bs.drop 2).take 2) &&& 32768), decide (0 < beNat ((bs.drop 2).take 2) &&& 512), decide (0 < beNat ((bs.drop 2).take 2) &&& 256), ((beNat ((bs.drop 2).take 2) &&& 15 : Nat) : Int), nm, beNat ((bs.drop a).take 2), an, au⟩

section
variable {bs : List UInt8} {i f c0 c1 c2 c3 a1 a2 a3 a4 a5 a6 a7 a8 a9 v8 v9 : Nat} {b1 b2 b3 b4 b5 b6 b7 b8 b9 : Bool} {s : List UInt8}
/-- The head. -/
structure Hdr (bs : List UInt8) (i f c0 c1 c2 a6 : Nat) (b6 : Bool) : Prop where
  ok : b6 = false → 12 ≤ bs.length ∧ a6 = 12 ∧ i = beNat (bs.take 2) ∧ f = beNat ((bs.drop 2).take 2) ∧ c0 = beNat ((bs.drop 4).take 2) ∧ c1 = beNat ((bs.drop 6).take 2) ∧ c2 = beNat ((bs.drop 8).take 2)
  no : b6 = true → bs.length < 12
theorem num_step {bs : List UInt8} {n a v a' p : Nat} {b b' : Bool} (e : numR bs n a b = (v, a', b')) (h : (b = false → a = p ∧ p ≤ bs.length) ∧ (b = true → bs.length < p)) :
    ((b' = false → a' = p + n ∧ p + n ≤ bs.length) ∧ (b' = true → bs.length < p + n)) ∧ (b' = false → b = false ∧ v = beNat ((bs.drop p).take n)) := by
  rcases numR_cases e with ⟨rfl, _, rfl, h1⟩ | ⟨rfl, rfl, h1, rfl, rfl⟩
  · refine ⟨⟨fun h => (by cases h), fun _ => ?_⟩, fun h => (by cases h)⟩
    cases b with
    | true => have := h.2 rfl; omega
    | false =>
      have := h.1 rfl
      rcases h1 with h1 | h1
      · cases h1
      · omega
  · obtain ⟨rfl, h2⟩ := h.1 rfl
    exact ⟨⟨fun _ => ⟨rfl, h1⟩, fun h => (by cases h)⟩, fun _ => ⟨rfl, rfl⟩⟩
theorem hdr_of (e1 : numR bs 2 0 false = (i, a1, b1)) (e2 : numR bs 2 a1 b1 = (f, a2, b2)) (e3 : numR bs 2 a2 b2 = (c0, a3, b3)) (e4 : numR bs 2 a3 b3 = (c1, a4, b4)) (e5 : numR bs 2 a4 b4 = (c2, a5, b5)) (e6 : numR bs 2 a5 b5 = (c3, a6, b6)) : Hdr bs i f c0 c1 c2 a6 b6 := by
  obtain ⟨s1, v1⟩ := num_step (p := 0) e1 ⟨fun _ => ⟨rfl, by omega⟩, fun h => (by cases h)⟩
  obtain ⟨s2, v2⟩ := num_step e2 s1
  obtain ⟨s3, v3⟩ := num_step e3 s2
  obtain ⟨s4, v4⟩ := num_step e4 s3
  obtain ⟨s5, v5⟩ := num_step e5 s4
  obtain ⟨s6, v6⟩ := num_step e6 s5
  refine ⟨fun h => ?_, s6.2⟩
  obtain ⟨h5, _⟩ := v6 h
  obtain ⟨h4, w5⟩ := v5 h5
  obtain ⟨h3, w4⟩ := v4 h4
  obtain ⟨h2, w3⟩ := v3 h3
  obtain ⟨h1, w2⟩ := v2 h2
  obtain ⟨_, w1⟩ := v1 h1
  exact ⟨(s6.1 h).2, (s6.1 h).1, w1, w2, w3, w4, w5⟩
theorem dec_bad (h : Hdr bs i f c0 c1 c2 a6 b6) (hg : 0 < f &&& 30720 ∨ c0 ≠ 1 ∨ 32 < c1 + c2) : decode bs = none := by
  unfold decode
  cases b6 with
  | true => rw [if_pos (h.no rfl)]
  | false =>
    obtain ⟨hl, rfl, rfl, rfl, rfl, rfl, rfl⟩ := h.ok rfl
    rw [if_neg (by omega)]
    rcases hg with hg | hg | hg
    · rw [if_pos hg]
    · split <;> first | rfl | rw [if_pos hg]
    · split
      · rfl
      · split <;> first | rfl | rw [if_pos hg]
theorem dec_eq (h : Hdr bs i f c0 c1 c2 a6 b6) (hg1 : ¬ 0 < f &&& 30720) (hg2 : c0 = 1) (hg3 : ¬ 32 < c1 + c2) (h7 : if b6 = true then NameRes none s a7 b7 else NameRes (rdName bs 300 a6 0 0 [] a6) s a7 b7)
    (e8 : numR bs 2 a7 b7 = (v8, a8, b8)) (e9 : numR bs 2 a8 b8 = (v9, a9, b9)) :
    decode bs = match recsSt bs c1 a9 (b9 || decide (v9 ≠ 1)) [] with
      | none => none
      | some (an, a2) => match recsSt bs c2 a2 false [] with
        | none => none
        | some (au, _) => finM ⟨i, decide (0 < f &&& 32768), decide (0 < f &&& 512), decide (0 < f &&& 256), ((f &&& 15 : Nat) : Int), s, v8, an, au⟩ := by
  unfold decode
  cases b6 with
  | true =>
    rw [if_pos (h.no rfl)]
    rw [if_pos rfl] at h7
    obtain ⟨_, rfl⟩ := h7
    rcases numR_cases e8 with ⟨rfl, _, rfl, h8⟩ | ⟨rfl, q8, h8, rfl, rfl⟩
    · rcases numR_cases e9 with ⟨rfl, _, rfl, h9⟩ | ⟨rfl, q9, h9, rfl, rfl⟩
      · rfl
      · cases q9
    · cases q8
  | false =>
    obtain ⟨hl, rfl, rfl, rfl, rfl, rfl, rfl⟩ := h.ok rfl
    rw [if_neg (by omega), if_neg hg1, if_neg (by omega), if_neg hg3]
    rw [if_neg (by simp)] at h7
    cases hr : rdName bs 300 12 0 0 [] 12 with
    | none =>
      rw [hr] at h7
      obtain ⟨_, rfl⟩ := h7
      rcases numR_cases e8 with ⟨rfl, _, rfl, h8⟩ | ⟨rfl, q8, h8, rfl, rfl⟩
      · rcases numR_cases e9 with ⟨rfl, _, rfl, h9⟩ | ⟨rfl, q9, h9, rfl, rfl⟩
        · rfl
        · cases q9
      · cases q8
    | some p =>
      obtain ⟨nm, a⟩ := p
      rw [hr] at h7
      obtain ⟨rfl, rfl, rfl⟩ := h7
      simp only
      rcases numR_cases e8 with ⟨rfl, _, rfl, h8⟩ | ⟨rfl, q8, h8, rfl, rfl⟩
      · rcases numR_cases e9 with ⟨rfl, _, rfl, h9⟩ | ⟨rfl, q9, h9, rfl, rfl⟩
        · rw [if_pos (by simp at h8; omega)]; rfl
        · cases q9
      · rcases numR_cases e9 with ⟨rfl, _, rfl, h9⟩ | ⟨rfl, q9, h9, rfl, rfl⟩
        · rw [if_pos (by simp at h9; omega)]; rfl
        · rw [if_neg (by omega)]
          by_cases hc : beNat ((bs.drop (a7 + 2)).take 2) = 1
          · rw [if_neg (by simp [hc])]
            simp only [recsSt, hc, ne_eq, not_true, decide_false, Bool.or_false, Bool.false_eq_true, if_false, List.nil_append]
            rw [show a7 + 2 + 2 = a7 + 4 by omega]
            cases readRecs bs (beNat ((bs.drop 6).take 2)) (a7 + 4) with
            | none => rfl
            | some q =>
              obtain ⟨q, e⟩ := q
              simp only
              cases readRecs bs (beNat ((bs.drop 8).take 2)) e with
              | none => rfl
              | some q2 => obtain ⟨q2, e2⟩ := q2; rfl
          · rw [if_pos hc]
            simp [recsSt, hc]
end
theorem readRecs_ok {bs : List UInt8} : ∀ {k a : Nat} {rs : List Rec} {e : Nat}, readRecs bs k a = some (rs, e) → rs.length = k ∧ OkA rs ∧ rs.all rightR = true
  | 0, a, rs, e, h => by
    injection h with h; injection h with h1 h2; subst h1
    exact ⟨rfl, OkA.nil, rfl⟩
  | k + 1, a, rs, e, h => by
    rw [readRecs] at h
    cases hr : readRec bs a with
    | none => rw [hr] at h; cases h
    | some p =>
      obtain ⟨r, a1⟩ := p
      rw [hr] at h
      simp only at h
      cases hq : readRecs bs k a1 with
      | none => rw [hq] at h; cases h
      | some q =>
        obtain ⟨q, e1⟩ := q
        rw [hq] at h
        injection h with h; injection h with h1 h2; subst h1
        obtain ⟨i1, i2, i3⟩ := readRecs_ok hq
        obtain ⟨_, j2, j3⟩ := readRec_le hr
        refine ⟨by simp [i1], fun x hx => ?_, by simp [i3, j3]⟩
        rcases List.mem_cons.1 hx with rfl | hx
        · exact j2
        · exact i2 x hx
theorem decode_all {bs : List UInt8} {m : Msg} (h : decode bs = some m) : allM m = true := by
  unfold decode at h
  repeat' (split at h)
  all_goals first | cases h | skip
  all_goals (unfold finM at h; split at h)
  all_goals first | cases h; assumption | cases h

theorem binOp_andN (t : TypeId) (a b : Nat) (ha : a < 9223372036854775808) (hb : b < 9223372036854775808) : binOp .and t (.int .i64 (a : Int)) (.int .i64 (b : Int)) = pure (.int .i64 ((a &&& b : Nat) : Int)) := by
  simp only [binOp, Op.intBits, ne_eq, not_true, ite_false]
  have hbv : ∀ k : Nat, k < 18446744073709551616 → (BitVec.ofInt IntKind.i64.bits (k : Int)).toNat = k := by
    intro k hk
    show (BitVec.ofInt 64 (k : Int)).toNat = k
    simp [BitVec.toNat_ofInt]; omega
  have e : (BitVec.ofInt IntKind.i64.bits (a : Int) &&& BitVec.ofInt IntKind.i64.bits (b : Int)).toNat = a &&& b := by
    rw [BitVec.toNat_and, hbv _ (by omega), hbv _ (by omega)]
  have hle : a &&& b ≤ a := Nat.and_le_left
  rw [e, IntWalk.i64_in _ (by omega)]
theorem R.andN {l : Env} {w : World} {x y : Operand} {t ty : TypeId} {P : Program} {a b : Nat} (hx : ev l x = some (.int .i64 (a : Int))) (hy : ev l y = some (.int .i64 (b : Int))) (ha : a < 9223372036854775808) (hb : b < 9223372036854775808) : Runs P l (.binOp .and t x y ty) w (.int .i64 ((a &&& b : Nat) : Int)) w :=
  R.bin hx hy (binOp_andN t a b ha hb)
theorem R.gtr0 {l : Env} {w : World} {x y : Operand} {t ty : TypeId} {P : Program} {a : Nat} (hx : ev l x = some (.int .i64 (a : Int))) (hy : ev l y = some (.int .i64 0)) : Runs P l (.binOp .gtr t x y ty) w (.bool (decide (0 < a))) w :=
  R.gtr hx hy (by by_cases h : 0 < a <;> simp [h])
end Go.Proofs.YthcpjcgjmdfpjaaDoor
