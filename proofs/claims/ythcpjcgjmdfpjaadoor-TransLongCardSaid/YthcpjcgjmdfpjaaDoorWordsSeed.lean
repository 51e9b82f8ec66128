/- Words, contracts and walks that several statements share (WordsSeed): SeedSpec, Light, Record, Message. -/
import Derived.Test.YthcpjcgjmdfpjaaDoorCoreE
import Derived.Test.YthcpjcgjmdfpjaaDoorWordsRec
namespace Go.Proofs.YthcpjcgjmdfpjaaDoor
open Go Go.RowKit
set_option maxRecDepth 100000

/-- One bit of a number, as a number. -/
def bitI (k : Nat) (n : Int) : Int := n / ((2 ^ k : Nat) : Int) % 2 * ((2 ^ k : Nat) : Int)
def kindS (s : SeedV) : Int := s.kind % 8
/-- The record of a seed. -/
def recS (s : SeedV) : Rec :=
  if kindS s = 0 ∨ kindS s = 1 then ⟨nameN s.name, 1, s.ttl % 65536, mappedL ++ s.addr.take 4, [], []⟩
  else if kindS s = 2 ∨ kindS s = 3 then ⟨nameN s.name, 28, s.ttl % 65536, s.addr, [], []⟩
  else if kindS s = 4 then ⟨nameN s.name, 5, s.ttl % 65536, zero16, nameN (s.name / 2 ^ (3 : Int).toNat), []⟩
  else if kindS s = 5 then ⟨nameN s.name, 12, s.ttl % 65536, zero16, nameN (s.name / 2 ^ (3 : Int).toNat), []⟩
  else if kindS s = 6 then ⟨nameN s.name, 6, s.ttl % 65536, zero16, [], s.data.take 255⟩
  else ⟨nameN s.name, 16, s.ttl % 65536, zero16, [], s.data.take 255⟩
def codesA : List Int := [0, 0, 3, 2]
def codeN (f : Int) : Int := (codesA[(f / 2 ^ (3 : Int).toNat % 4).toNat]?).getD 0
def isSoa (r : Rec) : Bool := decide (r.type = 6)
def ansS (l : List SeedV) : List Rec := (l.map recS).filter (fun r => !isSoa r)
def authS (l : List SeedV) : List Rec := (l.map recS).filter isSoa
/-- The message of seeds. -/
def msgS (id f : Int) (q : SeedV) (l : List SeedV) : Msg :=
  ⟨id % 65536, decide (f % 2 > 0), decide (bitI 1 f > 0), decide (bitI 2 f > 0), codeN f, nameN q.name, (recS q).type, ansS (l.take 32), authS (l.take 32)⟩

theorem codeN_at (f : Int) : codesA[(f / 2 ^ (3 : Int).toNat % 4).toNat]? = some (codeN f) := by
  have h : (f / 2 ^ (3 : Int).toNat % 4).toNat < codesA.length := by show _ < 4; omega
  unfold codeN
  rw [List.getElem?_eq_getElem h]; rfl
theorem codeN_in (f : Int) : 0 ≤ codeN f ∧ codeN f ≤ 15 := by
  have h : codeN f ∈ codesA := List.mem_of_getElem? (codeN_at f)
  simp [codesA] at h
  omega
theorem addr_len {s : SeedV} (h : s.addr.length = 16) : (mappedL ++ s.addr.take 4).length = 16 := by simp [mappedL, h]
theorem recS_addr {s : SeedV} (h : s.addr.length = 16) : (recS s).addr.length = 16 := by
  unfold recS
  split
  · exact addr_len h
  split
  · exact h
  split
  · rfl
  split
  · rfl
  split <;> rfl
theorem recS_name (s : SeedV) : (recS s).name = nameN s.name := by
  unfold recS
  split
  · rfl
  split
  · rfl
  split
  · rfl
  split
  · rfl
  split <;> rfl
theorem recS_text (s : SeedV) : (recS s).text = [] ∨ (recS s).text = nameN (s.name / 2 ^ (3 : Int).toNat) := by
  unfold recS
  split
  · exact .inl rfl
  split
  · exact .inl rfl
  split
  · exact .inr rfl
  split
  · exact .inr rfl
  split <;> exact .inl rfl
theorem recS_type (s : SeedV) : 1 ≤ (recS s).type ∧ (recS s).type ≤ 65535 := by
  unfold recS
  split
  · exact ⟨by simp, by simp⟩
  split
  · exact ⟨by simp, by simp⟩
  split
  · exact ⟨by simp, by simp⟩
  split
  · exact ⟨by simp, by simp⟩
  split <;> exact ⟨by simp, by simp⟩
theorem recS_right (s : SeedV) : rightR (recS s) = true := by
  have hn := (nameN_ok s.name).1
  have hn2 := (nameN_ok (s.name / 2 ^ (3 : Int).toNat)).1
  have hn3 : namesL (nameN (s.name / 8)) = true := (nameN_ok _).1
  have h0 : 0 ≤ s.ttl % 65536 := by omega
  have h1 : s.ttl % 65536 ≤ 1048576 := by omega
  have hm : (mappedL ++ s.addr.take 4).take 12 = mappedL := List.take_left' rfl
  unfold recS
  split
  · simp [rightR, hn, h0, h1, hm]
  split
  · simp [rightR, hn, h0, h1]
  split
  · simp [rightR, hn, h0, h1, hn3]
  split
  · simp [rightR, hn, h0, h1, hn3]
  split
  · simp [rightR, hn, h0, h1]; omega
  · simp [rightR, hn, h0, h1]; omega
theorem filter_two {α : Type} (p : α → Bool) (l : List α) : (l.filter (fun x => !p x)).length + (l.filter p).length = l.length := by
  induction l with
  | nil => rfl
  | cons x xs ih =>
    cases h : p x <;> simp [h] <;> omega
theorem mem_ansS {l : List SeedV} {r : Rec} (h : r ∈ ansS l ++ authS l) : ∃ s ∈ l, r = recS s := by
  rcases List.mem_append.1 h with h | h
  · have := (List.mem_filter.1 h).1
    obtain ⟨s, hs, rfl⟩ := List.mem_map.1 this
    exact ⟨s, hs, rfl⟩
  · have := (List.mem_filter.1 h).1
    obtain ⟨s, hs, rfl⟩ := List.mem_map.1 this
    exact ⟨s, hs, rfl⟩
/-- A message of seeds fits. -/
theorem MBack.seeds {id f : Int} {q : SeedV} {l : List SeedV} (hl : ∀ s ∈ l, s.addr.length = 16) : MBack (msgS id f q l) := by
  have hrec : ∀ r ∈ ansS (l.take 32) ++ authS (l.take 32), r.addr.length = 16 ∧ (splitL r.name).length ≤ 16 ∧ (splitL r.text).length ≤ 16 ∧ rightR r = true := by
    intro r hr
    obtain ⟨s, hs, rfl⟩ := mem_ansS hr
    refine ⟨recS_addr (hl s (List.mem_of_mem_take hs)), ?_, ?_, recS_right s⟩
    · rw [recS_name]; exact (nameN_ok _).2.1
    · rcases recS_text s with h | h
      · rw [h]; decide
      · rw [h]; exact (nameN_ok _).2.1
  refine ⟨?_, (nameN_ok q.name).2.1, fun r hr => ⟨(hrec r hr).1, (hrec r hr).2.1, (hrec r hr).2.2.1⟩⟩
  have hsum : (ansS (l.take 32)).length + (authS (l.take 32)).length ≤ 32 := by
    have := filter_two isSoa ((l.take 32).map recS)
    unfold ansS authS
    rw [this, List.length_map, List.length_take]; omega
  have ha : (ansS (l.take 32)).all rightR = true := List.all_eq_true.2 fun r hr => (hrec r (by simp [hr])).2.2.2
  have hu : (authS (l.take 32)).all rightR = true := List.all_eq_true.2 fun r hr => (hrec r (by simp [hr])).2.2.2
  have h1 := codeN_in f
  have h2 := recS_type q
  have h3 := (nameN_ok q.name).1
  have h4 : 0 ≤ id % 65536 ∧ id % 65536 ≤ 65535 := by omega
  unfold allM msgS
  simp [h1, h2, h3, h4, ha, hu]
  exact hsum

/-- Few and short? -/
def lightS (l : List SeedV) : Bool := decide (l.length ≤ 60) && l.all (fun s => decide (s.data.length ≤ 400))

theorem and_pow (x k : Nat) : x &&& 2 ^ k = x / 2 ^ k % 2 * 2 ^ k := by
  apply Nat.eq_of_testBit_eq
  intro i
  rw [Nat.testBit_and, Nat.testBit_two_pow, Nat.testBit_mul_two_pow]
  by_cases h : k = i
  · subst h
    simp [Nat.testBit, Nat.shiftRight_eq_div_pow]
  · by_cases hi : k ≤ i
    · have : Nat.testBit (x / 2 ^ k % 2) (i - k) = false := by
        have := Nat.testBit_mod_two_pow (x / 2 ^ k) 1 (i - k)
        rw [Nat.pow_one] at this
        rw [this]; simp; omega
      simp [this, h]
    · simp [h, hi]
theorem binOp_bit (t : TypeId) (k : Nat) (hk : k ≤ 61) (n : Int) : binOp .and t (.int .i64 n) (.int .i64 ((2 ^ k : Nat) : Int)) = pure (.int .i64 (bitI k n)) := by
  simp only [binOp, Op.intBits, ne_eq, not_true, ite_false]
  have hp : 2 ^ k ≤ 2 ^ 61 := Nat.pow_le_pow_right (by decide) hk
  have h0 : 0 < 2 ^ k := Nat.two_pow_pos k
  have e1 : (BitVec.ofInt IntKind.i64.bits n).toNat = (n % (2 ^ 64 : Nat)).toNat := by
    show (BitVec.ofInt 64 n).toNat = _
    rw [BitVec.toNat_ofInt]
  have e2 : (BitVec.ofInt IntKind.i64.bits ((2 ^ k : Nat) : Int)).toNat = 2 ^ k := by
    show (BitVec.ofInt 64 ((2 ^ k : Nat) : Int)).toNat = _
    rw [BitVec.toNat_ofInt]
    have : ((2 ^ k : Nat) : Int) % ((2 ^ 64 : Nat) : Int) = ((2 ^ k : Nat) : Int) := Int.emod_eq_of_lt (by omega) (by omega)
    rw [this, Int.toNat_natCast]
  have e : (BitVec.ofInt IntKind.i64.bits n &&& BitVec.ofInt IntKind.i64.bits ((2 ^ k : Nat) : Int)).toNat = (n % (2 ^ 64 : Nat)).toNat / 2 ^ k % 2 * 2 ^ k := by
    rw [BitVec.toNat_and, e1, e2, and_pow]
  have e3 : (((n % (2 ^ 64 : Nat)).toNat / 2 ^ k % 2 * 2 ^ k : Nat) : Int) = bitI k n := by
    unfold bitI
    rw [Int.natCast_mul, Int.natCast_emod, Int.natCast_ediv, Int.toNat_of_nonneg (Int.emod_nonneg _ (by decide))]
    congr 1
    have hd : ((2 ^ 64 : Nat) : Int) = ((2 ^ k : Nat) : Int) * (2 * ((2 ^ (63 - k) : Nat) : Int)) := by
      have : (2 : Nat) ^ 64 = 2 ^ k * (2 * 2 ^ (63 - k)) := by
        rw [← Nat.pow_succ', ← Nat.pow_add]; congr 1; omega
      rw [this]; push_cast; rfl
    have hdiv := Int.emod_add_mul_ediv n ((2 ^ 64 : Nat) : Int)
    obtain ⟨q, hq⟩ : ∃ q, q = n / ((2 ^ 64 : Nat) : Int) := ⟨_, rfl⟩
    obtain ⟨r, hr⟩ : ∃ r, r = n % ((2 ^ 64 : Nat) : Int) := ⟨_, rfl⟩
    rw [← hq, ← hr] at hdiv
    rw [← hr]
    rw [← hdiv, hd]
    have : r + ((2 ^ k : Nat) : Int) * (2 * ((2 ^ (63 - k) : Nat) : Int)) * q = r + ((2 ^ k : Nat) : Int) * (2 * (((2 ^ (63 - k) : Nat) : Int) * q)) := by
      rw [Int.mul_assoc, Int.mul_assoc]
    rw [this, Int.add_mul_ediv_left _ _ (by omega)]
    omega
  rw [e, e3]
  have h1 : 0 ≤ bitI k n ∧ bitI k n ≤ ((2 ^ k : Nat) : Int) := by
    unfold bitI
    have : n / ((2 ^ k : Nat) : Int) % 2 = 0 ∨ n / ((2 ^ k : Nat) : Int) % 2 = 1 := by omega
    rcases this with h | h <;> rw [h] <;> omega
  rw [IntWalk.i64_in _ (by omega)]
theorem R.bit (k : Nat) {l : Env} {w : World} {x y : Operand} {t ty : TypeId} {P : Program} {n m : Int} (hx : ev l x = some (.int .i64 n)) (hy : ev l y = some (.int .i64 m)) (hk : k ≤ 61) (hm : m = ((2 ^ k : Nat) : Int)) : Runs P l (.binOp .and t x y ty) w (.int .i64 (bitI k n)) w := by
  subst hm
  exact R.bin hx hy (binOp_bit t k hk n)
end Go.Proofs.YthcpjcgjmdfpjaaDoor

namespace Go.Proofs.YthcpjcgjmdfpjaaDoor
open Go Go.RowKit
set_option maxRecDepth 100000
set_option maxHeartbeats 4000000

def fatS (s : SeedV) : Bool := decide (s.data.length ≤ 400)
theorem light_long {l : List SeedV} (h : 60 < l.length) : lightS l = false := by unfold lightS; simp; omega
theorem light_fat {l : List SeedV} {j : Nat} {s : SeedV} (hs : l[j]? = some s) (h : 400 < s.data.length) : lightS l = false := by
  unfold lightS
  have : (l.all fun s => decide (s.data.length ≤ 400)) = false := List.all_eq_false.2 ⟨s, List.mem_of_getElem? hs, by simp; omega⟩
  simp [this]
theorem light_yes {l : List SeedV} (h : ¬ 60 < l.length) (ha : l.all fatS = true) : lightS l = true := by
  unfold lightS
  have : (l.all fun s => decide (s.data.length ≤ 400)) = true := ha
  simp [this]; omega
theorem fat_take {l : List SeedV} {j : Nat} {s : SeedV} (hs : l[j]? = some s) (h : s.data.length ≤ 400) (ht : (l.take j).all fatS = true) : (l.take (j + 1)).all fatS = true := by
  rw [List.take_add_one, hs, List.all_append, ht]
  simp [fatS, h]
theorem light_any (A : Option Addr) (m c : Nat) (l : List SeedV) (w0 : World) (hL : Sl SeedV.cells 20 w0 A m l) (hO : ∀ s ∈ l, s.Ok) (hm : m ≤ maxLen) :
    Calls Tryd.prog 36 #[.slice A m c] w0 fun e w' => e = .returned (.bool (lightS l)) ∧ Chg (fun _ => False) w0 w' := by
  have hlm := hL.1
  have hC := Chg.refl (fun _ => False) w0
  have hmx : maxLen = 9223372036854775807 := rfl
  refine calls_cw (args := [.slice A m c]) Tryd.func36 rfl rfl ?_
  show CW _ _ _ 19 [(0, .slice A m c)] w0
  refine CW.rseq ?_
  refine WL.op (by decide) (R.assign rfl) ?_
  refine WL.next ?_
  refine CW.seq ?_
  refine CW.rseq ?_
  refine WL.op (by decide) (R.move rfl) ?_
  refine WL.op (by decide) (R.lenSlice rfl Tryd.underlying48 rfl) ?_
  refine WL.gtrS (by decide) rfl rfl (fun h1 => ?_) (fun h1 => ?_)
  · skip
    refine WL.next ?_
    refine CW.condT rfl ?_
    refine CW.rseq ?_
    refine WL.op (by decide) (R.assign rfl) ?_
    refine WL.next ?_
    refine CW.ret ?_
    refine EW.thenRet ?_
    exact EW.ret1 (.inl rfl) rfl rfl ⟨congrArg (fun b => Ending.returned (.bool b)) (light_long (by omega)).symm, hC⟩
  · skip
    refine WL.next ?_
    refine CW.condF rfl ?_
    refine CW.skip ?_
    refine EW.next ?_
    refine CW.seq ?_
    refine CW.rseq ?_
    refine WL.op (by decide) (R.move rfl) ?_
    refine WL.op (by decide) (R.lenSlice rfl Tryd.underlying48 rfl) ?_
    refine WL.op (by decide) (R.move rfl) ?_
    refine WL.next ?_
    refine CW.block ?_
    refine CW.loopK [8, 9, 10] (fun k le wr => Chg (fun _ => False) w0 wr ∧ ∃ (j : Nat) (jj : Int), j + k = l.length ∧ jj = (j : Int) ∧ le = [(8, .slice A m c), (9, .int .i64 m), (10, .int .i64 jj)] ∧ (l.take j).all fatS = true) (l.length) ?_ ?_
    · exact ⟨Chg.refl _ _, 0, 0, by omega, rfl, rfl, rfl⟩
    · rintro k le wr ⟨hC, j, jj, hk, rfl, rfl, htk⟩
      have hz_hC := hC.size
      refine CW.rseq ?_
      refine WL.lssS (by decide) rfl rfl (fun h2 => ?_) (fun h2 => ?_)
      · skip
        refine WL.next ?_
        refine CW.seq ?_
        refine CW.condT rfl ?_
        refine CW.skip ?_
        refine EW.next ?_
        refine CW.seq ?_
        refine CW.block ?_
        refine CW.rseq ?_
        obtain ⟨s, hs⟩ : ∃ s, l[j]? = some s := ⟨l[j]'(by omega), List.getElem?_eq_getElem _⟩
        obtain ⟨hlm2, g, o, hA, hcell⟩ := (hL.kept hC).at hs
        subst hA
        have hs16 := (hO s (List.mem_of_getElem? hs)).a
        have hsd := (hO s (List.mem_of_getElem? hs)).d
        refine WL.op (by decide) (R.indexAddr1 (i := j) Tryd.underlying48 sz50 rfl rfl (by omega) (by omega)) ?_
        refine WL.op (by decide) (R.loadSdAt hs16 rfl hcell) ?_
        refine WL.eff rfl (OP.allocSd (by decide) ?_)
        intro w1 hc_w1 hs_w1 hB4
        obtain ⟨b4, he_b4⟩ : ∃ b, b = wr.heap.size := ⟨_, rfl⟩
        rw [← he_b4] at hB4 ⊢
        have hC := hC.trans hc_w1
        have hz_w1 := hc_w1.size
        refine WL.eff rfl (OP.storeSd (by assumption) (by first | rfl | assumption) rfl rfl hB4 ?_)
        intro w2 hc_w2 hs_w2 hB4
        have hC := hC.thenB hc_w2 (by omega)
        refine WL.next ?_
        refine CW.rseq ?_
        refine WL.op (by decide) (FA50_4 rfl) ?_
        refine WL.op (by decide) (R.load Tryd.underlying9 rfl rfl (cell_at hB4 (SeedV.at19 (by assumption)))) ?_
        refine WL.op (by decide) (R.lenS rfl rfl) ?_
        refine WL.gtrS (by decide) rfl rfl (fun h3 => ?_) (fun h3 => ?_)
        · skip
          refine WL.next ?_
          refine CW.condT rfl ?_
          refine CW.rseq ?_
          refine WL.op (by decide) (R.assign rfl) ?_
          refine WL.next ?_
          refine CW.ret ?_
          refine EW.inRet ?_
          refine EW.thenRet ?_
          refine EW.thenRet ?_
          refine EW.inRet ?_
          refine EW.thenRet ?_
          exact EW.ret1 (.inl rfl) rfl rfl ⟨congrArg (fun b => Ending.returned (.bool b)) (light_fat hs (by omega)).symm, hC⟩
        · skip
          refine WL.next ?_
          refine CW.condF rfl ?_
          refine CW.skip ?_
          refine EW.inNormal ?_
          refine EW.next ?_
          refine CW.region ?_
          refine WL.op (by decide) (R.add rfl rfl (by omega)) ?_
          refine WL.op (by decide) (R.move rfl) ?_
          refine WL.nil ?_
          exact EW.roundK [8, 9, 10] (k - 1) (by omega) ⟨hC, j + 1, _, by omega, by omega, rfl, fat_take hs (by omega) htk⟩
      · skip
        refine WL.next ?_
        refine CW.seq ?_
        refine CW.condF rfl ?_
        refine CW.exit ?_
        refine EW.thenExit ?_
        refine EW.thenExit ?_
        refine EW.inHere ?_
        refine EW.next ?_
        refine CW.rseq ?_
        refine WL.op (by decide) (R.assign rfl) ?_
        refine WL.next ?_
        refine CW.ret ?_
        exact EW.ret1 (.inl rfl) rfl rfl ⟨congrArg (fun b => Ending.returned (.bool b)) (light_yes (by omega) (by rwa [List.take_of_length_le (by omega)] at htk)).symm, hC⟩
end Go.Proofs.YthcpjcgjmdfpjaaDoor

namespace Go.Proofs.YthcpjcgjmdfpjaaDoor
open Go Go.RowKit
set_option maxRecDepth 100000
set_option maxHeartbeats 4000000

theorem build57_02 (s : List UInt8) (ttl : Int) (w : World) : (Instr.build 57 #[(0, sv s), (2, .int .i64 ttl)]).run Tryd.prog w = .ok (Rec.val ⟨s, 0, ttl, zero16, [], []⟩) w := by unfold sv; kernel_rfl
theorem slice6 (c0 c1 c2 c3 : UInt8) (w : World) : (Instr.buildSlice 36 6 #[(0, u8v 255), (1, u8v 255), (2, u8v c0), (3, u8v c1), (4, u8v c2), (5, u8v c3)]).run Tryd.prog w = .ok (.slice (some ⟨w.heap.size, 0, none⟩) 6 6) (w.alloc (.cells #[u8v 255, u8v 255, u8v c0, u8v c1, u8v c2, u8v c3] 5)) := by kernel_rfl
theorem cells_one6 {w : World} {b : Nat} {c0 c1 c2 c3 : UInt8} (hb : w.heap[b]? = some (.cells #[u8v 255, u8v 255, u8v c0, u8v c1, u8v c2, u8v c3] 5 (0, 0))) : ∀ j u, (([255, 255, c0, c1, c2, c3] : List UInt8).map u8v)[j]? = some u → w.cell? ((⟨b, 0, none⟩ : Addr).add j) = some u := by
  intro j u hj
  rw [Addr.add_none, Nat.zero_add]
  refine cell_at hb ?_
  have : (#[u8v 255, u8v 255, u8v c0, u8v c1, u8v c2, u8v c3] : Array Value) = (([255, 255, c0, c1, c2, c3] : List UInt8).map u8v).toArray := rfl
  rw [this, List.getElem?_toArray]; exact hj
theorem four_of {a : List UInt8} (h : a.length = 16) : ∃ c0 c1 c2 c3, a.take 4 = [c0, c1, c2, c3] ∧ (a.map u8v)[0]? = some (u8v c0) ∧ (a.map u8v)[1]? = some (u8v c1) ∧ (a.map u8v)[2]? = some (u8v c2) ∧ (a.map u8v)[3]? = some (u8v c3) := by
  obtain ⟨a0, a1, a2, a3, a4, a5, a6, a7, a8, a9, b0, b1, b2, b3, b4, b5, rfl⟩ := list16 h
  exact ⟨a0, a1, a2, a3, rfl, rfl, rfl, rfl, rfl⟩
theorem rec_a {s : SeedV} (h : s.kind % 8 = 0 ∨ s.kind % 8 = 1) : recS s = ⟨nameN s.name, 1, s.ttl % 65536, mappedL ++ s.addr.take 4, [], []⟩ := if_pos h
theorem rec_b {s : SeedV} (h : s.kind % 8 = 2 ∨ s.kind % 8 = 3) : recS s = ⟨nameN s.name, 28, s.ttl % 65536, s.addr, [], []⟩ := by
  unfold recS kindS; rw [if_neg (by omega), if_pos h]
theorem rec_c {s : SeedV} (h : s.kind % 8 = 4) : recS s = ⟨nameN s.name, 5, s.ttl % 65536, zero16, nameN (s.name / 2 ^ (3 : Int).toNat), []⟩ := by
  unfold recS kindS; rw [if_neg (by omega), if_neg (by omega), if_pos h]
theorem rec_d {s : SeedV} (h : s.kind % 8 = 5) : recS s = ⟨nameN s.name, 12, s.ttl % 65536, zero16, nameN (s.name / 2 ^ (3 : Int).toNat), []⟩ := by
  unfold recS kindS; rw [if_neg (by omega), if_neg (by omega), if_neg (by omega), if_pos h]
theorem rec_e {s : SeedV} (h : s.kind % 8 = 6) : recS s = ⟨nameN s.name, 6, s.ttl % 65536, zero16, [], s.data.take 255⟩ := by
  unfold recS kindS; rw [if_neg (by omega), if_neg (by omega), if_neg (by omega), if_neg (by omega), if_pos h]
theorem rec_f {s : SeedV} (h : ¬ (s.kind % 8 = 0 ∨ s.kind % 8 = 1 ∨ s.kind % 8 = 2)) (h2 : ¬ (s.kind % 8 = 3 ∨ s.kind % 8 = 4 ∨ s.kind % 8 = 5 ∨ s.kind % 8 = 6)) : recS s = ⟨nameN s.name, 16, s.ttl % 65536, zero16, [], s.data.take 255⟩ := by
  unfold recS kindS; rw [if_neg (by omega), if_neg (by omega), if_neg (by omega), if_neg (by omega), if_neg (by omega)]
theorem record_any (s : SeedV) (w0 : World) (hO : s.Ok) : Calls Tryd.prog 48 #[.agg s.cells.toArray] w0 fun e w' => e = .returned (recS s).val ∧ Chg (fun _ => False) w0 w' := by
  have hs16 := hO.a
  have hz16 : zero16.length = 16 := rfl
  have hC := Chg.refl (fun _ => False) w0
  obtain ⟨c0, c1, c2, c3, e4, e0, e1, e2, e3⟩ := four_of hs16
  refine calls_cw (args := [.agg s.cells.toArray]) Tryd.func48 rfl rfl ?_
  show CW _ _ _ 78 [(0, .agg s.cells.toArray)] w0
  refine CW.rseq ?_
  refine WL.eff rfl (OP.box (by decide) rfl ?_)
  intro w1 hc_w1 hs_w1 hB1
  obtain ⟨b1, he_b1⟩ : ∃ b, b = w0.heap.size := ⟨_, rfl⟩
  rw [← he_b1] at hB1 ⊢
  have hB1 : BSd w1 b1 _ := hB1
  have hC := hC.trans hc_w1
  have hz_w1 := hc_w1.size
  refine WL.eff rfl (OP.allocR (by decide) ?_)
  intro w2 hc_w2 hs_w2 hB2
  obtain ⟨b2, he_b2⟩ : ∃ b, b = w1.heap.size := ⟨_, rfl⟩
  rw [← he_b2] at hB2 ⊢
  have hB1 := hc_w2.at hB1 (fun e => e)
  have hC := hC.trans hc_w2
  have hz_w2 := hc_w2.size
  refine WL.next ?_
  refine CW.seq ?_
  have hB1_d := hB1
  have hB2_d := hB2
  refine CW.draw (fun w => w.heap[b1]? = w2.heap[b1]? ∧ w.heap[b2]? = w2.heap[b2]?) (by kernel_rfl) ?_
  have hc_w3 : Chg (fun _ => False) w2 w2.drew := Chg.drew _ _
  obtain ⟨w3, he_w3⟩ : ∃ w, w = w2.drew := ⟨_, rfl⟩
  rw [← he_w3] at hc_w3 ⊢
  have hB1 := hc_w3.at hB1 (fun e => e)
  have hB2 := hc_w3.at hB2 (fun e => e)
  have hC := hC.trans hc_w3
  have hz_w3 := hc_w3.size
  refine AH.take 0 rfl (by kernel_rfl) (by kernel_rfl) (by kernel_rfl) (fun _ _ _ _ h => h) (⟨hB1.trans hB1_d.symm, hB2.trans hB2_d.symm⟩) (by decide) (fun w hS => FA50_0 rfl) ?_
  refine AH.take 1 rfl (by kernel_rfl) (by kernel_rfl) (by kernel_rfl) (fun _ _ _ _ h => h) (⟨hB1.trans hB1_d.symm, hB2.trans hB2_d.symm⟩) (by decide) (fun w hS => R.load Tryd.underlying3 rfl rfl (cell_at (hS.1.trans hB1_d) rfl)) ?_
  refine AH.take 3 rfl (by kernel_rfl) (by kernel_rfl) (by kernel_rfl) (fun _ _ _ _ h => h) (⟨hB1.trans hB1_d.symm, hB2.trans hB2_d.symm⟩) (by decide) (fun w hS => FA50_2 rfl) ?_
  refine AH.take 4 rfl (by kernel_rfl) (by kernel_rfl) (by kernel_rfl) (fun _ _ _ _ h => h) (⟨hB1.trans hB1_d.symm, hB2.trans hB2_d.symm⟩) (by decide) (fun w hS => R.load Tryd.underlying3 rfl rfl (cell_at (hS.1.trans hB1_d) rfl)) ?_
  refine AH.take 5 rfl (by kernel_rfl) (by kernel_rfl) (by kernel_rfl) (fun _ _ _ _ h => h) (⟨hB1.trans hB1_d.symm, hB2.trans hB2_d.symm⟩) (by decide) (fun w hS => R.mask 16 rfl rfl (by decide) rfl rfl) ?_
  refine AH.either 2 7 (by kernel_rfl) rfl rfl rfl rfl ?_ ?_
  · skip
    refine (OP.call (by decide) Tryd.func33 (by kernel_rfl) (by kernel_rfl) rfl (name_any _ _) ?_)
    rintro ed w4 ⟨rfl, hc_w4⟩
    refine ⟨_, rfl, ?_⟩
    have hB1 := hc_w4.at hB1 (fun e => e)
    have hB2 := hc_w4.at hB2 (fun e => e)
    have hC := hC.trans hc_w4
    have hz_w4 := hc_w4.size
    refine ⟨⟨hB1.trans hB1_d.symm, hB2.trans hB2_d.symm⟩, ?_⟩
    refine AH.take 6 rfl (by kernel_rfl) (by kernel_rfl) (by kernel_rfl) (fun _ _ _ _ h => h) (⟨hB1.trans hB1_d.symm, hB2.trans hB2_d.symm⟩) (by decide) (fun w hS => R.build (parts := [(0, _), (2, _)]) (vals := [(0, _), (2, _)]) rfl (fun w => build57_02 _ _ w)) ?_
    refine AH.eff 7 (by kernel_rfl) rfl rfl (OP.allocR (by decide) ?_)
    intro w5 hc_w5 hs_w5 hB3
    obtain ⟨b3, he_b3⟩ : ∃ b, b = w4.heap.size := ⟨_, rfl⟩
    rw [← he_b3] at hB3 ⊢
    have hB1 := hc_w5.at hB1 (fun e => e)
    have hB2 := hc_w5.at hB2 (fun e => e)
    have hC := hC.trans hc_w5
    have hz_w5 := hc_w5.size
    refine ⟨⟨hB1.trans hB1_d.symm, hB2.trans hB2_d.symm⟩, ?_⟩
    refine AH.eff 8 (by kernel_rfl) rfl rfl (OP.storeR rfl rfl (by first | assumption | rfl) (by first | assumption | rfl) hB3 ?_)
    intro w6 hc_w6 hs_w6 hB3
    have hB1 := hc_w6.at hB1 (fun e => by omega)
    have hB2 := hc_w6.at hB2 (fun e => by omega)
    have hC := hC.thenB hc_w6 (by omega)
    refine ⟨⟨hB1.trans hB1_d.symm, hB2.trans hB2_d.symm⟩, ?_⟩
    refine AH.done (by kernel_rfl) ?_
    refine EW.next ?_
    refine CW.seq ?_
    refine CW.rseq ?_
    refine WL.op (by decide) (FA50_1 rfl) ?_
    refine WL.op (by decide) (R.load Tryd.underlying3 rfl rfl (cell_at hB1 rfl)) ?_
    refine WL.op (by decide) (R.mask 3 rfl rfl (by decide) rfl rfl) ?_
    refine WL.next ?_
    refine CW.block ?_
    refine CW.seq ?_
    refine CW.rseq ?_
    refine WL.eqlS (by decide) rfl rfl (fun h1 => ?_) (fun h1 => ?_)
    · skip
      refine WL.op (by decide) (R.assign rfl) ?_
      refine WL.next ?_
      refine CW.condT rfl ?_
      refine CW.skip ?_
      refine EW.next ?_
      refine CW.condT rfl ?_
      refine CW.rseq ?_
      refine WL.op (by decide) (FA57_1 rfl) ?_
      refine WL.eff rfl (OP.storeRType rfl rfl hB3 ?_)
      intro w7 hc_w7 hs_w7 hB3
      have hB1 := hc_w7.at hB1 (fun e => by omega)
      have hB2 := hc_w7.at hB2 (fun e => by omega)
      have hC := hC.thenB hc_w7 (by omega)
      refine WL.next ?_
      have hB1_d := hB1
      have hB2_d := hB2
      refine CW.draw (fun w => w.heap[b1]? = w7.heap[b1]? ∧ w.heap[b2]? = w7.heap[b2]?) (by kernel_rfl) ?_
      have hc_w8 : Chg (fun _ => False) w7 w7.drew := Chg.drew _ _
      obtain ⟨w8, he_w8⟩ : ∃ w, w = w7.drew := ⟨_, rfl⟩
      rw [← he_w8] at hc_w8 ⊢
      have hB1 := hc_w8.at hB1 (fun e => e)
      have hB2 := hc_w8.at hB2 (fun e => e)
      have hB3 := hc_w8.at hB3 (fun e => e)
      have hC := hC.trans hc_w8
      have hz_w8 := hc_w8.size
      refine AH.take 0 rfl (by kernel_rfl) (by kernel_rfl) (by kernel_rfl) (fun _ _ _ _ h => h) (⟨hB1.trans hB1_d.symm, hB2.trans hB2_d.symm⟩) (by decide) (fun w hS => FA57_3 rfl) ?_
      refine AH.take 1 rfl (by kernel_rfl) (by kernel_rfl) (by kernel_rfl) (fun _ _ _ _ h => h) (⟨hB1.trans hB1_d.symm, hB2.trans hB2_d.symm⟩) (by decide) (fun w hS => R.sliceArr (lo := some _) (hi := none) (hv := none) (lv := some (.int .i64 10)) (l1 := 10) (h1 := 16) Tryd.underlying27 sz5 rfl rfl rfl (by kernel_rfl) (by decide)) ?_
      refine AH.take 2 rfl (by kernel_rfl) (by kernel_rfl) (by kernel_rfl) (fun _ _ _ _ h => h) (⟨hB1.trans hB1_d.symm, hB2.trans hB2_d.symm⟩) (by decide) (fun w hS => FA50_3 rfl) ?_
      refine AH.take 3 rfl (by kernel_rfl) (by kernel_rfl) (by kernel_rfl) (fun _ _ _ _ h => h) (⟨hB1.trans hB1_d.symm, hB2.trans hB2_d.symm⟩) (by decide) (fun w hS => R.indexArr (i := 0) Tryd.underlying27 sz5 rfl rfl rfl (by decide)) ?_
      refine AH.take 4 rfl (by kernel_rfl) (by kernel_rfl) (by kernel_rfl) (fun _ _ _ _ h => h) (⟨hB1.trans hB1_d.symm, hB2.trans hB2_d.symm⟩) (by decide) (fun w hS => R.load Tryd.underlying5 rfl rfl (cell_at (hS.1.trans hB1_d) (SeedV.atAddr e0))) ?_
      refine AH.take 5 rfl (by kernel_rfl) (by kernel_rfl) (by kernel_rfl) (fun _ _ _ _ h => h) (⟨hB1.trans hB1_d.symm, hB2.trans hB2_d.symm⟩) (by decide) (fun w hS => FA50_3 rfl) ?_
      refine AH.take 6 rfl (by kernel_rfl) (by kernel_rfl) (by kernel_rfl) (fun _ _ _ _ h => h) (⟨hB1.trans hB1_d.symm, hB2.trans hB2_d.symm⟩) (by decide) (fun w hS => R.indexArr (i := 1) Tryd.underlying27 sz5 rfl rfl rfl (by decide)) ?_
      refine AH.take 7 rfl (by kernel_rfl) (by kernel_rfl) (by kernel_rfl) (fun _ _ _ _ h => h) (⟨hB1.trans hB1_d.symm, hB2.trans hB2_d.symm⟩) (by decide) (fun w hS => R.load Tryd.underlying5 rfl rfl (cell_at (hS.1.trans hB1_d) (SeedV.atAddr e1))) ?_
      refine AH.take 8 rfl (by kernel_rfl) (by kernel_rfl) (by kernel_rfl) (fun _ _ _ _ h => h) (⟨hB1.trans hB1_d.symm, hB2.trans hB2_d.symm⟩) (by decide) (fun w hS => FA50_3 rfl) ?_
      refine AH.take 9 rfl (by kernel_rfl) (by kernel_rfl) (by kernel_rfl) (fun _ _ _ _ h => h) (⟨hB1.trans hB1_d.symm, hB2.trans hB2_d.symm⟩) (by decide) (fun w hS => R.indexArr (i := 2) Tryd.underlying27 sz5 rfl rfl rfl (by decide)) ?_
      refine AH.take 10 rfl (by kernel_rfl) (by kernel_rfl) (by kernel_rfl) (fun _ _ _ _ h => h) (⟨hB1.trans hB1_d.symm, hB2.trans hB2_d.symm⟩) (by decide) (fun w hS => R.load Tryd.underlying5 rfl rfl (cell_at (hS.1.trans hB1_d) (SeedV.atAddr e2))) ?_
      refine AH.take 11 rfl (by kernel_rfl) (by kernel_rfl) (by kernel_rfl) (fun _ _ _ _ h => h) (⟨hB1.trans hB1_d.symm, hB2.trans hB2_d.symm⟩) (by decide) (fun w hS => FA50_3 rfl) ?_
      refine AH.take 12 rfl (by kernel_rfl) (by kernel_rfl) (by kernel_rfl) (fun _ _ _ _ h => h) (⟨hB1.trans hB1_d.symm, hB2.trans hB2_d.symm⟩) (by decide) (fun w hS => R.indexArr (i := 3) Tryd.underlying27 sz5 rfl rfl rfl (by decide)) ?_
      refine AH.take 13 rfl (by kernel_rfl) (by kernel_rfl) (by kernel_rfl) (fun _ _ _ _ h => h) (⟨hB1.trans hB1_d.symm, hB2.trans hB2_d.symm⟩) (by decide) (fun w hS => R.load Tryd.underlying5 rfl rfl (cell_at (hS.1.trans hB1_d) (SeedV.atAddr e3))) ?_
      refine AH.eff 14 (by kernel_rfl) rfl rfl (OP.buildSlice (parts := [(0, _), (1, _), (2, _), (3, _), (4, _), (5, _)]) (vals := [(0, u8v 255), (1, u8v 255), (2, _), (3, _), (4, _), (5, _)]) (cells := #[u8v 255, u8v 255, u8v c0, u8v c1, u8v c2, u8v c3]) (ty := 5) (by decide) rfl (fun w => slice6 c0 c1 c2 c3 w) ?_)
      intro w9 hc_w9 hs_w9 hN
      have hB1 := hc_w9.at hB1 (fun e => e)
      have hB2 := hc_w9.at hB2 (fun e => e)
      have hB3 := hc_w9.at hB3 (fun e => e)
      have hC := hC.trans hc_w9
      have hz_w9 := hc_w9.size
      refine ⟨⟨hB1.trans hB1_d.symm, hB2.trans hB2_d.symm⟩, ?_⟩
      refine AH.eff 15 (by kernel_rfl) rfl rfl (OP.copy (cs := [255, 255, c0, c1, c2, c3]) (by decide) rfl rfl hB3 rfl (cells_one6 hN) (by rw [List.size_toArray, Rec.length (by rfl)]; exact Nat.le_of_ble_eq_true rfl) ?_)
      intro w10 hc_w10 hs_w10 hB3
      have hB1 := hc_w10.at hB1 (fun e => by omega)
      have hB2 := hc_w10.at hB2 (fun e => by omega)
      have hC := hC.thenB hc_w10 (by omega)
      have hB3 : w10.heap[b3]? = some (.cells (Rec.cells ⟨nameN s.name, 1, s.ttl % 65536, mappedL ++ [c0, c1, c2, c3], [], []⟩).toArray 57 (0, 0)) := hB3
      refine ⟨⟨hB1.trans hB1_d.symm, hB2.trans hB2_d.symm⟩, ?_⟩
      refine AH.done (by kernel_rfl) ?_
      refine EW.inNormal ?_
      refine EW.next ?_
      refine CW.rseq ?_
      refine WL.op (by decide) (R.loadRB (by first | assumption | rfl) rfl hB3) ?_
      refine WL.eff rfl (OP.storeR rfl rfl (by first | assumption | rfl) (by first | assumption | rfl) hB2 ?_)
      intro w11 hc_w11 hs_w11 hB2
      have hB1 := hc_w11.at hB1 (fun e => by omega)
      have hB3 := hc_w11.at hB3 (fun e => by omega)
      have hC := hC.thenB hc_w11 (by omega)
      refine WL.next ?_
      refine CW.ret ?_
      have hR := rec_a (s := s) (by omega)
      rw [show mappedL ++ s.addr.take 4 = mappedL ++ [c0, c1, c2, c3] by rw [e4]] at hR
      exact EW.retC (.inl rfl) rfl rfl (cs := (recS s).cells) Tryd.underlying57 rfl (by rw [Rec.length (recS_addr hs16)]; exact sz57) (fun j u hj => cell_at hB2 (by rw [hR] at hj; rw [List.getElem?_toArray]; exact hj)) ⟨rfl, hC⟩
    · skip
      refine WL.op (by decide) (R.assign rfl) ?_
      refine WL.next ?_
      refine CW.condF rfl ?_
      refine CW.region ?_
      refine WL.eqlS (by decide) rfl rfl (fun h2 => ?_) (fun h2 => ?_)
      · skip
        refine WL.op (by decide) (R.assign rfl) ?_
        refine WL.nil ?_
        refine EW.next ?_
        refine CW.condT rfl ?_
        refine CW.rseq ?_
        refine WL.op (by decide) (FA57_1 rfl) ?_
        refine WL.eff rfl (OP.storeRType rfl rfl hB3 ?_)
        intro w12 hc_w12 hs_w12 hB3
        have hB1 := hc_w12.at hB1 (fun e => by omega)
        have hB2 := hc_w12.at hB2 (fun e => by omega)
        have hC := hC.thenB hc_w12 (by omega)
        refine WL.next ?_
        have hB1_d := hB1
        have hB2_d := hB2
        refine CW.draw (fun w => w.heap[b1]? = w12.heap[b1]? ∧ w.heap[b2]? = w12.heap[b2]?) (by kernel_rfl) ?_
        have hc_w13 : Chg (fun _ => False) w12 w12.drew := Chg.drew _ _
        obtain ⟨w13, he_w13⟩ : ∃ w, w = w12.drew := ⟨_, rfl⟩
        rw [← he_w13] at hc_w13 ⊢
        have hB1 := hc_w13.at hB1 (fun e => e)
        have hB2 := hc_w13.at hB2 (fun e => e)
        have hB3 := hc_w13.at hB3 (fun e => e)
        have hC := hC.trans hc_w13
        have hz_w13 := hc_w13.size
        refine AH.take 0 rfl (by kernel_rfl) (by kernel_rfl) (by kernel_rfl) (fun _ _ _ _ h => h) (⟨hB1.trans hB1_d.symm, hB2.trans hB2_d.symm⟩) (by decide) (fun w hS => FA57_3 rfl) ?_
        refine AH.take 1 rfl (by kernel_rfl) (by kernel_rfl) (by kernel_rfl) (fun _ _ _ _ h => h) (⟨hB1.trans hB1_d.symm, hB2.trans hB2_d.symm⟩) (by decide) (fun w hS => R.sliceArr (lo := some _) (hi := none) (hv := none) (lv := some (.int .i64 10)) (l1 := 10) (h1 := 16) Tryd.underlying27 sz5 rfl rfl rfl (by kernel_rfl) (by decide)) ?_
        refine AH.take 2 rfl (by kernel_rfl) (by kernel_rfl) (by kernel_rfl) (fun _ _ _ _ h => h) (⟨hB1.trans hB1_d.symm, hB2.trans hB2_d.symm⟩) (by decide) (fun w hS => FA50_3 rfl) ?_
        refine AH.take 3 rfl (by kernel_rfl) (by kernel_rfl) (by kernel_rfl) (fun _ _ _ _ h => h) (⟨hB1.trans hB1_d.symm, hB2.trans hB2_d.symm⟩) (by decide) (fun w hS => R.indexArr (i := 0) Tryd.underlying27 sz5 rfl rfl rfl (by decide)) ?_
        refine AH.take 4 rfl (by kernel_rfl) (by kernel_rfl) (by kernel_rfl) (fun _ _ _ _ h => h) (⟨hB1.trans hB1_d.symm, hB2.trans hB2_d.symm⟩) (by decide) (fun w hS => R.load Tryd.underlying5 rfl rfl (cell_at (hS.1.trans hB1_d) (SeedV.atAddr e0))) ?_
        refine AH.take 5 rfl (by kernel_rfl) (by kernel_rfl) (by kernel_rfl) (fun _ _ _ _ h => h) (⟨hB1.trans hB1_d.symm, hB2.trans hB2_d.symm⟩) (by decide) (fun w hS => FA50_3 rfl) ?_
        refine AH.take 6 rfl (by kernel_rfl) (by kernel_rfl) (by kernel_rfl) (fun _ _ _ _ h => h) (⟨hB1.trans hB1_d.symm, hB2.trans hB2_d.symm⟩) (by decide) (fun w hS => R.indexArr (i := 1) Tryd.underlying27 sz5 rfl rfl rfl (by decide)) ?_
        refine AH.take 7 rfl (by kernel_rfl) (by kernel_rfl) (by kernel_rfl) (fun _ _ _ _ h => h) (⟨hB1.trans hB1_d.symm, hB2.trans hB2_d.symm⟩) (by decide) (fun w hS => R.load Tryd.underlying5 rfl rfl (cell_at (hS.1.trans hB1_d) (SeedV.atAddr e1))) ?_
        refine AH.take 8 rfl (by kernel_rfl) (by kernel_rfl) (by kernel_rfl) (fun _ _ _ _ h => h) (⟨hB1.trans hB1_d.symm, hB2.trans hB2_d.symm⟩) (by decide) (fun w hS => FA50_3 rfl) ?_
        refine AH.take 9 rfl (by kernel_rfl) (by kernel_rfl) (by kernel_rfl) (fun _ _ _ _ h => h) (⟨hB1.trans hB1_d.symm, hB2.trans hB2_d.symm⟩) (by decide) (fun w hS => R.indexArr (i := 2) Tryd.underlying27 sz5 rfl rfl rfl (by decide)) ?_
        refine AH.take 10 rfl (by kernel_rfl) (by kernel_rfl) (by kernel_rfl) (fun _ _ _ _ h => h) (⟨hB1.trans hB1_d.symm, hB2.trans hB2_d.symm⟩) (by decide) (fun w hS => R.load Tryd.underlying5 rfl rfl (cell_at (hS.1.trans hB1_d) (SeedV.atAddr e2))) ?_
        refine AH.take 11 rfl (by kernel_rfl) (by kernel_rfl) (by kernel_rfl) (fun _ _ _ _ h => h) (⟨hB1.trans hB1_d.symm, hB2.trans hB2_d.symm⟩) (by decide) (fun w hS => FA50_3 rfl) ?_
        refine AH.take 12 rfl (by kernel_rfl) (by kernel_rfl) (by kernel_rfl) (fun _ _ _ _ h => h) (⟨hB1.trans hB1_d.symm, hB2.trans hB2_d.symm⟩) (by decide) (fun w hS => R.indexArr (i := 3) Tryd.underlying27 sz5 rfl rfl rfl (by decide)) ?_
        refine AH.take 13 rfl (by kernel_rfl) (by kernel_rfl) (by kernel_rfl) (fun _ _ _ _ h => h) (⟨hB1.trans hB1_d.symm, hB2.trans hB2_d.symm⟩) (by decide) (fun w hS => R.load Tryd.underlying5 rfl rfl (cell_at (hS.1.trans hB1_d) (SeedV.atAddr e3))) ?_
        refine AH.eff 14 (by kernel_rfl) rfl rfl (OP.buildSlice (parts := [(0, _), (1, _), (2, _), (3, _), (4, _), (5, _)]) (vals := [(0, u8v 255), (1, u8v 255), (2, _), (3, _), (4, _), (5, _)]) (cells := #[u8v 255, u8v 255, u8v c0, u8v c1, u8v c2, u8v c3]) (ty := 5) (by decide) rfl (fun w => slice6 c0 c1 c2 c3 w) ?_)
        intro w14 hc_w14 hs_w14 hN
        have hB1 := hc_w14.at hB1 (fun e => e)
        have hB2 := hc_w14.at hB2 (fun e => e)
        have hB3 := hc_w14.at hB3 (fun e => e)
        have hC := hC.trans hc_w14
        have hz_w14 := hc_w14.size
        refine ⟨⟨hB1.trans hB1_d.symm, hB2.trans hB2_d.symm⟩, ?_⟩
        refine AH.eff 15 (by kernel_rfl) rfl rfl (OP.copy (cs := [255, 255, c0, c1, c2, c3]) (by decide) rfl rfl hB3 rfl (cells_one6 hN) (by rw [List.size_toArray, Rec.length (by rfl)]; exact Nat.le_of_ble_eq_true rfl) ?_)
        intro w15 hc_w15 hs_w15 hB3
        have hB1 := hc_w15.at hB1 (fun e => by omega)
        have hB2 := hc_w15.at hB2 (fun e => by omega)
        have hC := hC.thenB hc_w15 (by omega)
        have hB3 : w15.heap[b3]? = some (.cells (Rec.cells ⟨nameN s.name, 1, s.ttl % 65536, mappedL ++ [c0, c1, c2, c3], [], []⟩).toArray 57 (0, 0)) := hB3
        refine ⟨⟨hB1.trans hB1_d.symm, hB2.trans hB2_d.symm⟩, ?_⟩
        refine AH.done (by kernel_rfl) ?_
        refine EW.inNormal ?_
        refine EW.next ?_
        refine CW.rseq ?_
        refine WL.op (by decide) (R.loadRB (by first | assumption | rfl) rfl hB3) ?_
        refine WL.eff rfl (OP.storeR rfl rfl (by first | assumption | rfl) (by first | assumption | rfl) hB2 ?_)
        intro w16 hc_w16 hs_w16 hB2
        have hB1 := hc_w16.at hB1 (fun e => by omega)
        have hB3 := hc_w16.at hB3 (fun e => by omega)
        have hC := hC.thenB hc_w16 (by omega)
        refine WL.next ?_
        refine CW.ret ?_
        have hR := rec_a (s := s) (by omega)
        rw [show mappedL ++ s.addr.take 4 = mappedL ++ [c0, c1, c2, c3] by rw [e4]] at hR
        exact EW.retC (.inl rfl) rfl rfl (cs := (recS s).cells) Tryd.underlying57 rfl (by rw [Rec.length (recS_addr hs16)]; exact sz57) (fun j u hj => cell_at hB2 (by rw [hR] at hj; rw [List.getElem?_toArray]; exact hj)) ⟨rfl, hC⟩
      · skip
        refine WL.op (by decide) (R.assign rfl) ?_
        refine WL.nil ?_
        refine EW.next ?_
        refine CW.condF rfl ?_
        refine CW.seq ?_
        refine CW.rseq ?_
        refine WL.eqlS (by decide) rfl rfl (fun h3 => ?_) (fun h3 => ?_)
        · skip
          refine WL.op (by decide) (R.assign rfl) ?_
          refine WL.next ?_
          refine CW.condT rfl ?_
          refine CW.skip ?_
          refine EW.next ?_
          refine CW.condT rfl ?_
          have hB1_d := hB1
          have hB2_d := hB2
          refine CW.draw (fun w => w.heap[b1]? = w6.heap[b1]? ∧ w.heap[b2]? = w6.heap[b2]?) (by kernel_rfl) ?_
          have hc_w17 : Chg (fun _ => False) w6 w6.drew := Chg.drew _ _
          obtain ⟨w17, he_w17⟩ : ∃ w, w = w6.drew := ⟨_, rfl⟩
          rw [← he_w17] at hc_w17 ⊢
          have hB1 := hc_w17.at hB1 (fun e => e)
          have hB2 := hc_w17.at hB2 (fun e => e)
          have hB3 := hc_w17.at hB3 (fun e => e)
          have hC := hC.trans hc_w17
          have hz_w17 := hc_w17.size
          refine AH.take 0 rfl (by kernel_rfl) (by kernel_rfl) (by kernel_rfl) (fun _ _ _ _ h => h) (⟨hB1.trans hB1_d.symm, hB2.trans hB2_d.symm⟩) (by decide) (fun w hS => FA50_3 rfl) ?_
          refine AH.take 1 rfl (by kernel_rfl) (by kernel_rfl) (by kernel_rfl) (fun _ _ _ _ h => h) (⟨hB1.trans hB1_d.symm, hB2.trans hB2_d.symm⟩) (by decide) (fun w hS => R.loadSdA (by assumption) rfl (hS.1.trans hB1_d)) ?_
          refine AH.take 2 rfl (by kernel_rfl) (by kernel_rfl) (by kernel_rfl) (fun _ _ _ _ h => h) (⟨hB1.trans hB1_d.symm, hB2.trans hB2_d.symm⟩) (by decide) (fun w hS => FA57_1 rfl) ?_
          refine AH.eff 3 (by kernel_rfl) rfl rfl (OP.storeRType rfl rfl hB3 ?_)
          intro w18 hc_w18 hs_w18 hB3
          have hB1 := hc_w18.at hB1 (fun e => by omega)
          have hB2 := hc_w18.at hB2 (fun e => by omega)
          have hC := hC.thenB hc_w18 (by omega)
          refine ⟨⟨hB1.trans hB1_d.symm, hB2.trans hB2_d.symm⟩, ?_⟩
          refine AH.take 4 rfl (by kernel_rfl) (by kernel_rfl) (by kernel_rfl) (fun _ _ _ _ h => h) (⟨hB1.trans hB1_d.symm, hB2.trans hB2_d.symm⟩) (by decide) (fun w hS => FA57_3 rfl) ?_
          refine AH.eff 5 (by kernel_rfl) rfl rfl (OP.storeRAddr (by first | assumption | rfl) (by first | assumption | rfl) rfl rfl hB3 ?_)
          intro w19 hc_w19 hs_w19 hB3
          have hB1 := hc_w19.at hB1 (fun e => by omega)
          have hB2 := hc_w19.at hB2 (fun e => by omega)
          have hC := hC.thenB hc_w19 (by omega)
          refine ⟨⟨hB1.trans hB1_d.symm, hB2.trans hB2_d.symm⟩, ?_⟩
          refine AH.done (by kernel_rfl) ?_
          refine EW.inNormal ?_
          refine EW.next ?_
          refine CW.rseq ?_
          refine WL.op (by decide) (R.loadRB (by first | assumption | rfl) rfl hB3) ?_
          refine WL.eff rfl (OP.storeR rfl rfl (by first | assumption | rfl) (by first | assumption | rfl) hB2 ?_)
          intro w20 hc_w20 hs_w20 hB2
          have hB1 := hc_w20.at hB1 (fun e => by omega)
          have hB3 := hc_w20.at hB3 (fun e => by omega)
          have hC := hC.thenB hc_w20 (by omega)
          refine WL.next ?_
          refine CW.ret ?_
          have hR := rec_b (s := s) (by omega)
          exact EW.retC (.inl rfl) rfl rfl (cs := (recS s).cells) Tryd.underlying57 rfl (by rw [Rec.length (recS_addr hs16)]; exact sz57) (fun j u hj => cell_at hB2 (by rw [hR] at hj; rw [List.getElem?_toArray]; exact hj)) ⟨rfl, hC⟩
        · skip
          refine WL.op (by decide) (R.assign rfl) ?_
          refine WL.next ?_
          refine CW.condF rfl ?_
          refine CW.region ?_
          refine WL.eqlS (by decide) rfl rfl (fun h4 => ?_) (fun h4 => ?_)
          · skip
            refine WL.op (by decide) (R.assign rfl) ?_
            refine WL.nil ?_
            refine EW.next ?_
            refine CW.condT rfl ?_
            have hB1_d := hB1
            have hB2_d := hB2
            refine CW.draw (fun w => w.heap[b1]? = w6.heap[b1]? ∧ w.heap[b2]? = w6.heap[b2]?) (by kernel_rfl) ?_
            have hc_w21 : Chg (fun _ => False) w6 w6.drew := Chg.drew _ _
            obtain ⟨w21, he_w21⟩ : ∃ w, w = w6.drew := ⟨_, rfl⟩
            rw [← he_w21] at hc_w21 ⊢
            have hB1 := hc_w21.at hB1 (fun e => e)
            have hB2 := hc_w21.at hB2 (fun e => e)
            have hB3 := hc_w21.at hB3 (fun e => e)
            have hC := hC.trans hc_w21
            have hz_w21 := hc_w21.size
            refine AH.take 0 rfl (by kernel_rfl) (by kernel_rfl) (by kernel_rfl) (fun _ _ _ _ h => h) (⟨hB1.trans hB1_d.symm, hB2.trans hB2_d.symm⟩) (by decide) (fun w hS => FA50_3 rfl) ?_
            refine AH.take 1 rfl (by kernel_rfl) (by kernel_rfl) (by kernel_rfl) (fun _ _ _ _ h => h) (⟨hB1.trans hB1_d.symm, hB2.trans hB2_d.symm⟩) (by decide) (fun w hS => R.loadSdA (by assumption) rfl (hS.1.trans hB1_d)) ?_
            refine AH.take 2 rfl (by kernel_rfl) (by kernel_rfl) (by kernel_rfl) (fun _ _ _ _ h => h) (⟨hB1.trans hB1_d.symm, hB2.trans hB2_d.symm⟩) (by decide) (fun w hS => FA57_1 rfl) ?_
            refine AH.eff 3 (by kernel_rfl) rfl rfl (OP.storeRType rfl rfl hB3 ?_)
            intro w22 hc_w22 hs_w22 hB3
            have hB1 := hc_w22.at hB1 (fun e => by omega)
            have hB2 := hc_w22.at hB2 (fun e => by omega)
            have hC := hC.thenB hc_w22 (by omega)
            refine ⟨⟨hB1.trans hB1_d.symm, hB2.trans hB2_d.symm⟩, ?_⟩
            refine AH.take 4 rfl (by kernel_rfl) (by kernel_rfl) (by kernel_rfl) (fun _ _ _ _ h => h) (⟨hB1.trans hB1_d.symm, hB2.trans hB2_d.symm⟩) (by decide) (fun w hS => FA57_3 rfl) ?_
            refine AH.eff 5 (by kernel_rfl) rfl rfl (OP.storeRAddr (by first | assumption | rfl) (by first | assumption | rfl) rfl rfl hB3 ?_)
            intro w23 hc_w23 hs_w23 hB3
            have hB1 := hc_w23.at hB1 (fun e => by omega)
            have hB2 := hc_w23.at hB2 (fun e => by omega)
            have hC := hC.thenB hc_w23 (by omega)
            refine ⟨⟨hB1.trans hB1_d.symm, hB2.trans hB2_d.symm⟩, ?_⟩
            refine AH.done (by kernel_rfl) ?_
            refine EW.inNormal ?_
            refine EW.next ?_
            refine CW.rseq ?_
            refine WL.op (by decide) (R.loadRB (by first | assumption | rfl) rfl hB3) ?_
            refine WL.eff rfl (OP.storeR rfl rfl (by first | assumption | rfl) (by first | assumption | rfl) hB2 ?_)
            intro w24 hc_w24 hs_w24 hB2
            have hB1 := hc_w24.at hB1 (fun e => by omega)
            have hB3 := hc_w24.at hB3 (fun e => by omega)
            have hC := hC.thenB hc_w24 (by omega)
            refine WL.next ?_
            refine CW.ret ?_
            have hR := rec_b (s := s) (by omega)
            exact EW.retC (.inl rfl) rfl rfl (cs := (recS s).cells) Tryd.underlying57 rfl (by rw [Rec.length (recS_addr hs16)]; exact sz57) (fun j u hj => cell_at hB2 (by rw [hR] at hj; rw [List.getElem?_toArray]; exact hj)) ⟨rfl, hC⟩
          · skip
            refine WL.op (by decide) (R.assign rfl) ?_
            refine WL.nil ?_
            refine EW.next ?_
            refine CW.condF rfl ?_
            refine CW.rseq ?_
            refine WL.eqlS (by decide) rfl rfl (fun h5 => ?_) (fun h5 => ?_)
            · skip
              refine WL.op (by decide) (R.assign rfl) ?_
              refine WL.next ?_
              refine CW.condT rfl ?_
              refine CW.region ?_
              refine WL.op (by decide) (FA50_0 rfl) ?_
              refine WL.op (by decide) (R.load Tryd.underlying3 rfl rfl (cell_at hB1 rfl)) ?_
              refine WL.op (by decide) (R.shr rfl rfl (by omega)) ?_
              refine WL.eff rfl (OP.call (by decide) Tryd.func33 (by kernel_rfl) (by kernel_rfl) rfl (name_any _ _) ?_)
              rintro ed w25 ⟨rfl, hc_w25⟩
              refine ⟨_, rfl, ?_⟩
              have hB1 := hc_w25.at hB1 (fun e => e)
              have hB2 := hc_w25.at hB2 (fun e => e)
              have hB3 := hc_w25.at hB3 (fun e => e)
              have hC := hC.trans hc_w25
              have hz_w25 := hc_w25.size
              refine WL.op (by decide) (FA57_1 rfl) ?_
              refine WL.eff rfl (OP.storeRType rfl rfl hB3 ?_)
              intro w26 hc_w26 hs_w26 hB3
              have hB1 := hc_w26.at hB1 (fun e => by omega)
              have hB2 := hc_w26.at hB2 (fun e => by omega)
              have hC := hC.thenB hc_w26 (by omega)
              refine WL.op (by decide) (FA57_4 rfl) ?_
              refine WL.eff rfl (OP.storeRText (by first | assumption | rfl) rfl rfl hB3 ?_)
              intro w27 hc_w27 hs_w27 hB3
              have hB1 := hc_w27.at hB1 (fun e => by omega)
              have hB2 := hc_w27.at hB2 (fun e => by omega)
              have hC := hC.thenB hc_w27 (by omega)
              refine WL.nil ?_
              refine EW.inNormal ?_
              refine EW.next ?_
              refine CW.rseq ?_
              refine WL.op (by decide) (R.loadRB (by first | assumption | rfl) rfl hB3) ?_
              refine WL.eff rfl (OP.storeR rfl rfl (by first | assumption | rfl) (by first | assumption | rfl) hB2 ?_)
              intro w28 hc_w28 hs_w28 hB2
              have hB1 := hc_w28.at hB1 (fun e => by omega)
              have hB3 := hc_w28.at hB3 (fun e => by omega)
              have hC := hC.thenB hc_w28 (by omega)
              refine WL.next ?_
              refine CW.ret ?_
              have hR := rec_c (s := s) (by omega)
              exact EW.retC (.inl rfl) rfl rfl (cs := (recS s).cells) Tryd.underlying57 rfl (by rw [Rec.length (recS_addr hs16)]; exact sz57) (fun j u hj => cell_at hB2 (by rw [hR] at hj; rw [List.getElem?_toArray]; exact hj)) ⟨rfl, hC⟩
            · skip
              refine WL.op (by decide) (R.assign rfl) ?_
              refine WL.next ?_
              refine CW.condF rfl ?_
              refine CW.rseq ?_
              refine WL.eqlS (by decide) rfl rfl (fun h6 => ?_) (fun h6 => ?_)
              · skip
                refine WL.op (by decide) (R.assign rfl) ?_
                refine WL.next ?_
                refine CW.condT rfl ?_
                refine CW.region ?_
                refine WL.op (by decide) (FA50_0 rfl) ?_
                refine WL.op (by decide) (R.load Tryd.underlying3 rfl rfl (cell_at hB1 rfl)) ?_
                refine WL.op (by decide) (R.shr rfl rfl (by omega)) ?_
                refine WL.eff rfl (OP.call (by decide) Tryd.func33 (by kernel_rfl) (by kernel_rfl) rfl (name_any _ _) ?_)
                rintro ed w29 ⟨rfl, hc_w29⟩
                refine ⟨_, rfl, ?_⟩
                have hB1 := hc_w29.at hB1 (fun e => e)
                have hB2 := hc_w29.at hB2 (fun e => e)
                have hB3 := hc_w29.at hB3 (fun e => e)
                have hC := hC.trans hc_w29
                have hz_w29 := hc_w29.size
                refine WL.op (by decide) (FA57_1 rfl) ?_
                refine WL.eff rfl (OP.storeRType rfl rfl hB3 ?_)
                intro w30 hc_w30 hs_w30 hB3
                have hB1 := hc_w30.at hB1 (fun e => by omega)
                have hB2 := hc_w30.at hB2 (fun e => by omega)
                have hC := hC.thenB hc_w30 (by omega)
                refine WL.op (by decide) (FA57_4 rfl) ?_
                refine WL.eff rfl (OP.storeRText (by first | assumption | rfl) rfl rfl hB3 ?_)
                intro w31 hc_w31 hs_w31 hB3
                have hB1 := hc_w31.at hB1 (fun e => by omega)
                have hB2 := hc_w31.at hB2 (fun e => by omega)
                have hC := hC.thenB hc_w31 (by omega)
                refine WL.nil ?_
                refine EW.inNormal ?_
                refine EW.next ?_
                refine CW.rseq ?_
                refine WL.op (by decide) (R.loadRB (by first | assumption | rfl) rfl hB3) ?_
                refine WL.eff rfl (OP.storeR rfl rfl (by first | assumption | rfl) (by first | assumption | rfl) hB2 ?_)
                intro w32 hc_w32 hs_w32 hB2
                have hB1 := hc_w32.at hB1 (fun e => by omega)
                have hB3 := hc_w32.at hB3 (fun e => by omega)
                have hC := hC.thenB hc_w32 (by omega)
                refine WL.next ?_
                refine CW.ret ?_
                have hR := rec_d (s := s) (by omega)
                exact EW.retC (.inl rfl) rfl rfl (cs := (recS s).cells) Tryd.underlying57 rfl (by rw [Rec.length (recS_addr hs16)]; exact sz57) (fun j u hj => cell_at hB2 (by rw [hR] at hj; rw [List.getElem?_toArray]; exact hj)) ⟨rfl, hC⟩
              · skip
                refine WL.op (by decide) (R.assign rfl) ?_
                refine WL.next ?_
                refine CW.condF rfl ?_
                refine CW.rseq ?_
                refine WL.eqlS (by decide) rfl rfl (fun h7 => ?_) (fun h7 => ?_)
                · skip
                  refine WL.op (by decide) (R.assign rfl) ?_
                  refine WL.next ?_
                  refine CW.condT rfl ?_
                  have hB1_d := hB1
                  have hB2_d := hB2
                  refine CW.draw (fun w => w.heap[b1]? = w6.heap[b1]? ∧ w.heap[b2]? = w6.heap[b2]?) (by kernel_rfl) ?_
                  have hc_w33 : Chg (fun _ => False) w6 w6.drew := Chg.drew _ _
                  obtain ⟨w33, he_w33⟩ : ∃ w, w = w6.drew := ⟨_, rfl⟩
                  rw [← he_w33] at hc_w33 ⊢
                  have hB1 := hc_w33.at hB1 (fun e => e)
                  have hB2 := hc_w33.at hB2 (fun e => e)
                  have hB3 := hc_w33.at hB3 (fun e => e)
                  have hC := hC.trans hc_w33
                  have hz_w33 := hc_w33.size
                  refine AH.take 0 rfl (by kernel_rfl) (by kernel_rfl) (by kernel_rfl) (fun _ _ _ _ h => h) (⟨hB1.trans hB1_d.symm, hB2.trans hB2_d.symm⟩) (by decide) (fun w hS => FA50_4 rfl) ?_
                  refine AH.take 1 rfl (by kernel_rfl) (by kernel_rfl) (by kernel_rfl) (fun _ _ _ _ h => h) (⟨hB1.trans hB1_d.symm, hB2.trans hB2_d.symm⟩) (by decide) (fun w hS => R.load Tryd.underlying9 rfl rfl (cell_at (hS.1.trans hB1_d) (SeedV.at19 (by assumption)))) ?_
                  refine AH.take 2 rfl (by kernel_rfl) (by kernel_rfl) (by kernel_rfl) (fun _ _ _ _ h => h) (⟨hB1.trans hB1_d.symm, hB2.trans hB2_d.symm⟩) (by decide) (fun w hS => FA50_4 rfl) ?_
                  refine AH.take 3 rfl (by kernel_rfl) (by kernel_rfl) (by kernel_rfl) (fun _ _ _ _ h => h) (⟨hB1.trans hB1_d.symm, hB2.trans hB2_d.symm⟩) (by decide) (fun w hS => R.load Tryd.underlying9 rfl rfl (cell_at (hS.1.trans hB1_d) (SeedV.at19 (by assumption)))) ?_
                  refine AH.take 4 rfl (by kernel_rfl) (by kernel_rfl) (by kernel_rfl) (fun _ _ _ _ h => h) (⟨hB1.trans hB1_d.symm, hB2.trans hB2_d.symm⟩) (by decide) (fun w hS => R.lenS rfl rfl) ?_
                  refine AH.take 5 rfl (by kernel_rfl) (by kernel_rfl) (by kernel_rfl) (fun _ _ _ _ h => h) (⟨hB1.trans hB1_d.symm, hB2.trans hB2_d.symm⟩) (by decide) (fun w hS => R.minC rfl rfl) ?_
                  refine AH.take 6 rfl (by kernel_rfl) (by kernel_rfl) (by kernel_rfl) (fun _ _ _ _ h => h) (⟨hB1.trans hB1_d.symm, hB2.trans hB2_d.symm⟩) (by decide) (fun w hS => R.sliceHi rfl rfl) ?_
                  refine AH.take 7 rfl (by kernel_rfl) (by kernel_rfl) (by kernel_rfl) (fun _ _ _ _ h => h) (⟨hB1.trans hB1_d.symm, hB2.trans hB2_d.symm⟩) (by decide) (fun w hS => FA57_1 rfl) ?_
                  refine AH.eff 8 (by kernel_rfl) rfl rfl (OP.storeRType rfl rfl hB3 ?_)
                  intro w34 hc_w34 hs_w34 hB3
                  have hB1 := hc_w34.at hB1 (fun e => by omega)
                  have hB2 := hc_w34.at hB2 (fun e => by omega)
                  have hC := hC.thenB hc_w34 (by omega)
                  refine ⟨⟨hB1.trans hB1_d.symm, hB2.trans hB2_d.symm⟩, ?_⟩
                  refine AH.take 9 rfl (by kernel_rfl) (by kernel_rfl) (by kernel_rfl) (fun _ _ _ _ h => h) (⟨hB1.trans hB1_d.symm, hB2.trans hB2_d.symm⟩) (by decide) (fun w hS => FA57_5 rfl) ?_
                  refine AH.eff 10 (by kernel_rfl) rfl rfl (OP.storeRData (by first | assumption | rfl) rfl rfl hB3 ?_)
                  intro w35 hc_w35 hs_w35 hB3
                  have hB1 := hc_w35.at hB1 (fun e => by omega)
                  have hB2 := hc_w35.at hB2 (fun e => by omega)
                  have hC := hC.thenB hc_w35 (by omega)
                  refine ⟨⟨hB1.trans hB1_d.symm, hB2.trans hB2_d.symm⟩, ?_⟩
                  refine AH.done (by kernel_rfl) ?_
                  refine EW.inNormal ?_
                  refine EW.next ?_
                  refine CW.rseq ?_
                  refine WL.op (by decide) (R.loadRB (by first | assumption | rfl) rfl hB3) ?_
                  refine WL.eff rfl (OP.storeR rfl rfl (by first | assumption | rfl) (by first | assumption | rfl) hB2 ?_)
                  intro w36 hc_w36 hs_w36 hB2
                  have hB1 := hc_w36.at hB1 (fun e => by omega)
                  have hB3 := hc_w36.at hB3 (fun e => by omega)
                  have hC := hC.thenB hc_w36 (by omega)
                  refine WL.next ?_
                  refine CW.ret ?_
                  have hR := rec_e (s := s) (by omega)
                  exact EW.retC (.inl rfl) rfl rfl (cs := (recS s).cells) Tryd.underlying57 rfl (by rw [Rec.length (recS_addr hs16)]; exact sz57) (fun j u hj => cell_at hB2 (by rw [hR] at hj; rw [List.getElem?_toArray]; exact hj)) ⟨rfl, hC⟩
                · skip
                  refine WL.op (by decide) (R.assign rfl) ?_
                  refine WL.next ?_
                  refine CW.condF rfl ?_
                  have hB1_d := hB1
                  have hB2_d := hB2
                  refine CW.draw (fun w => w.heap[b1]? = w6.heap[b1]? ∧ w.heap[b2]? = w6.heap[b2]?) (by kernel_rfl) ?_
                  have hc_w37 : Chg (fun _ => False) w6 w6.drew := Chg.drew _ _
                  obtain ⟨w37, he_w37⟩ : ∃ w, w = w6.drew := ⟨_, rfl⟩
                  rw [← he_w37] at hc_w37 ⊢
                  have hB1 := hc_w37.at hB1 (fun e => e)
                  have hB2 := hc_w37.at hB2 (fun e => e)
                  have hB3 := hc_w37.at hB3 (fun e => e)
                  have hC := hC.trans hc_w37
                  have hz_w37 := hc_w37.size
                  refine AH.take 0 rfl (by kernel_rfl) (by kernel_rfl) (by kernel_rfl) (fun _ _ _ _ h => h) (⟨hB1.trans hB1_d.symm, hB2.trans hB2_d.symm⟩) (by decide) (fun w hS => FA50_4 rfl) ?_
                  refine AH.take 1 rfl (by kernel_rfl) (by kernel_rfl) (by kernel_rfl) (fun _ _ _ _ h => h) (⟨hB1.trans hB1_d.symm, hB2.trans hB2_d.symm⟩) (by decide) (fun w hS => R.load Tryd.underlying9 rfl rfl (cell_at (hS.1.trans hB1_d) (SeedV.at19 (by assumption)))) ?_
                  refine AH.take 2 rfl (by kernel_rfl) (by kernel_rfl) (by kernel_rfl) (fun _ _ _ _ h => h) (⟨hB1.trans hB1_d.symm, hB2.trans hB2_d.symm⟩) (by decide) (fun w hS => FA50_4 rfl) ?_
                  refine AH.take 3 rfl (by kernel_rfl) (by kernel_rfl) (by kernel_rfl) (fun _ _ _ _ h => h) (⟨hB1.trans hB1_d.symm, hB2.trans hB2_d.symm⟩) (by decide) (fun w hS => R.load Tryd.underlying9 rfl rfl (cell_at (hS.1.trans hB1_d) (SeedV.at19 (by assumption)))) ?_
                  refine AH.take 4 rfl (by kernel_rfl) (by kernel_rfl) (by kernel_rfl) (fun _ _ _ _ h => h) (⟨hB1.trans hB1_d.symm, hB2.trans hB2_d.symm⟩) (by decide) (fun w hS => R.lenS rfl rfl) ?_
                  refine AH.take 5 rfl (by kernel_rfl) (by kernel_rfl) (by kernel_rfl) (fun _ _ _ _ h => h) (⟨hB1.trans hB1_d.symm, hB2.trans hB2_d.symm⟩) (by decide) (fun w hS => R.minC rfl rfl) ?_
                  refine AH.take 6 rfl (by kernel_rfl) (by kernel_rfl) (by kernel_rfl) (fun _ _ _ _ h => h) (⟨hB1.trans hB1_d.symm, hB2.trans hB2_d.symm⟩) (by decide) (fun w hS => R.sliceHi rfl rfl) ?_
                  refine AH.take 7 rfl (by kernel_rfl) (by kernel_rfl) (by kernel_rfl) (fun _ _ _ _ h => h) (⟨hB1.trans hB1_d.symm, hB2.trans hB2_d.symm⟩) (by decide) (fun w hS => FA57_1 rfl) ?_
                  refine AH.eff 8 (by kernel_rfl) rfl rfl (OP.storeRType rfl rfl hB3 ?_)
                  intro w38 hc_w38 hs_w38 hB3
                  have hB1 := hc_w38.at hB1 (fun e => by omega)
                  have hB2 := hc_w38.at hB2 (fun e => by omega)
                  have hC := hC.thenB hc_w38 (by omega)
                  refine ⟨⟨hB1.trans hB1_d.symm, hB2.trans hB2_d.symm⟩, ?_⟩
                  refine AH.take 9 rfl (by kernel_rfl) (by kernel_rfl) (by kernel_rfl) (fun _ _ _ _ h => h) (⟨hB1.trans hB1_d.symm, hB2.trans hB2_d.symm⟩) (by decide) (fun w hS => FA57_5 rfl) ?_
                  refine AH.eff 10 (by kernel_rfl) rfl rfl (OP.storeRData (by first | assumption | rfl) rfl rfl hB3 ?_)
                  intro w39 hc_w39 hs_w39 hB3
                  have hB1 := hc_w39.at hB1 (fun e => by omega)
                  have hB2 := hc_w39.at hB2 (fun e => by omega)
                  have hC := hC.thenB hc_w39 (by omega)
                  refine ⟨⟨hB1.trans hB1_d.symm, hB2.trans hB2_d.symm⟩, ?_⟩
                  refine AH.done (by kernel_rfl) ?_
                  refine EW.inNormal ?_
                  refine EW.next ?_
                  refine CW.rseq ?_
                  refine WL.op (by decide) (R.loadRB (by first | assumption | rfl) rfl hB3) ?_
                  refine WL.eff rfl (OP.storeR rfl rfl (by first | assumption | rfl) (by first | assumption | rfl) hB2 ?_)
                  intro w40 hc_w40 hs_w40 hB2
                  have hB1 := hc_w40.at hB1 (fun e => by omega)
                  have hB3 := hc_w40.at hB3 (fun e => by omega)
                  have hC := hC.thenB hc_w40 (by omega)
                  refine WL.next ?_
                  refine CW.ret ?_
                  have hR := rec_f (s := s) (by omega) (by omega)
                  exact EW.retC (.inl rfl) rfl rfl (cs := (recS s).cells) Tryd.underlying57 rfl (by rw [Rec.length (recS_addr hs16)]; exact sz57) (fun j u hj => cell_at hB2 (by rw [hR] at hj; rw [List.getElem?_toArray]; exact hj)) ⟨rfl, hC⟩
  · skip
    refine (OP.allocR (by decide) ?_)
    intro w41 hc_w41 hs_w41 hB3
    obtain ⟨b3, he_b3⟩ : ∃ b, b = w3.heap.size := ⟨_, rfl⟩
    rw [← he_b3] at hB3 ⊢
    have hB1 := hc_w41.at hB1 (fun e => e)
    have hB2 := hc_w41.at hB2 (fun e => e)
    have hC := hC.trans hc_w41
    have hz_w41 := hc_w41.size
    refine ⟨⟨hB1.trans hB1_d.symm, hB2.trans hB2_d.symm⟩, ?_⟩
    refine AH.eff 2 (by kernel_rfl) rfl rfl (OP.call (by decide) Tryd.func33 (by kernel_rfl) (by kernel_rfl) rfl (name_any _ _) ?_)
    rintro ed w42 ⟨rfl, hc_w42⟩
    refine ⟨_, rfl, ?_⟩
    have hB1 := hc_w42.at hB1 (fun e => e)
    have hB2 := hc_w42.at hB2 (fun e => e)
    have hB3 := hc_w42.at hB3 (fun e => e)
    have hC := hC.trans hc_w42
    have hz_w42 := hc_w42.size
    refine ⟨⟨hB1.trans hB1_d.symm, hB2.trans hB2_d.symm⟩, ?_⟩
    refine AH.take 6 rfl (by kernel_rfl) (by kernel_rfl) (by kernel_rfl) (fun _ _ _ _ h => h) (⟨hB1.trans hB1_d.symm, hB2.trans hB2_d.symm⟩) (by decide) (fun w hS => R.build (parts := [(0, _), (2, _)]) (vals := [(0, _), (2, _)]) rfl (fun w => build57_02 _ _ w)) ?_
    refine AH.eff 8 (by kernel_rfl) rfl rfl (OP.storeR rfl rfl (by first | assumption | rfl) (by first | assumption | rfl) hB3 ?_)
    intro w43 hc_w43 hs_w43 hB3
    have hB1 := hc_w43.at hB1 (fun e => by omega)
    have hB2 := hc_w43.at hB2 (fun e => by omega)
    have hC := hC.thenB hc_w43 (by omega)
    refine ⟨⟨hB1.trans hB1_d.symm, hB2.trans hB2_d.symm⟩, ?_⟩
    refine AH.done (by kernel_rfl) ?_
    refine EW.next ?_
    refine CW.seq ?_
    refine CW.rseq ?_
    refine WL.op (by decide) (FA50_1 rfl) ?_
    refine WL.op (by decide) (R.load Tryd.underlying3 rfl rfl (cell_at hB1 rfl)) ?_
    refine WL.op (by decide) (R.mask 3 rfl rfl (by decide) rfl rfl) ?_
    refine WL.next ?_
    refine CW.block ?_
    refine CW.seq ?_
    refine CW.rseq ?_
    refine WL.eqlS (by decide) rfl rfl (fun h8 => ?_) (fun h8 => ?_)
    · skip
      refine WL.op (by decide) (R.assign rfl) ?_
      refine WL.next ?_
      refine CW.condT rfl ?_
      refine CW.skip ?_
      refine EW.next ?_
      refine CW.condT rfl ?_
      refine CW.rseq ?_
      refine WL.op (by decide) (FA57_1 rfl) ?_
      refine WL.eff rfl (OP.storeRType rfl rfl hB3 ?_)
      intro w44 hc_w44 hs_w44 hB3
      have hB1 := hc_w44.at hB1 (fun e => by omega)
      have hB2 := hc_w44.at hB2 (fun e => by omega)
      have hC := hC.thenB hc_w44 (by omega)
      refine WL.next ?_
      have hB1_d := hB1
      have hB2_d := hB2
      refine CW.draw (fun w => w.heap[b1]? = w44.heap[b1]? ∧ w.heap[b2]? = w44.heap[b2]?) (by kernel_rfl) ?_
      have hc_w45 : Chg (fun _ => False) w44 w44.drew := Chg.drew _ _
      obtain ⟨w45, he_w45⟩ : ∃ w, w = w44.drew := ⟨_, rfl⟩
      rw [← he_w45] at hc_w45 ⊢
      have hB1 := hc_w45.at hB1 (fun e => e)
      have hB2 := hc_w45.at hB2 (fun e => e)
      have hB3 := hc_w45.at hB3 (fun e => e)
      have hC := hC.trans hc_w45
      have hz_w45 := hc_w45.size
      refine AH.take 0 rfl (by kernel_rfl) (by kernel_rfl) (by kernel_rfl) (fun _ _ _ _ h => h) (⟨hB1.trans hB1_d.symm, hB2.trans hB2_d.symm⟩) (by decide) (fun w hS => FA57_3 rfl) ?_
      refine AH.take 1 rfl (by kernel_rfl) (by kernel_rfl) (by kernel_rfl) (fun _ _ _ _ h => h) (⟨hB1.trans hB1_d.symm, hB2.trans hB2_d.symm⟩) (by decide) (fun w hS => R.sliceArr (lo := some _) (hi := none) (hv := none) (lv := some (.int .i64 10)) (l1 := 10) (h1 := 16) Tryd.underlying27 sz5 rfl rfl rfl (by kernel_rfl) (by decide)) ?_
      refine AH.take 2 rfl (by kernel_rfl) (by kernel_rfl) (by kernel_rfl) (fun _ _ _ _ h => h) (⟨hB1.trans hB1_d.symm, hB2.trans hB2_d.symm⟩) (by decide) (fun w hS => FA50_3 rfl) ?_
      refine AH.take 3 rfl (by kernel_rfl) (by kernel_rfl) (by kernel_rfl) (fun _ _ _ _ h => h) (⟨hB1.trans hB1_d.symm, hB2.trans hB2_d.symm⟩) (by decide) (fun w hS => R.indexArr (i := 0) Tryd.underlying27 sz5 rfl rfl rfl (by decide)) ?_
      refine AH.take 4 rfl (by kernel_rfl) (by kernel_rfl) (by kernel_rfl) (fun _ _ _ _ h => h) (⟨hB1.trans hB1_d.symm, hB2.trans hB2_d.symm⟩) (by decide) (fun w hS => R.load Tryd.underlying5 rfl rfl (cell_at (hS.1.trans hB1_d) (SeedV.atAddr e0))) ?_
      refine AH.take 5 rfl (by kernel_rfl) (by kernel_rfl) (by kernel_rfl) (fun _ _ _ _ h => h) (⟨hB1.trans hB1_d.symm, hB2.trans hB2_d.symm⟩) (by decide) (fun w hS => FA50_3 rfl) ?_
      refine AH.take 6 rfl (by kernel_rfl) (by kernel_rfl) (by kernel_rfl) (fun _ _ _ _ h => h) (⟨hB1.trans hB1_d.symm, hB2.trans hB2_d.symm⟩) (by decide) (fun w hS => R.indexArr (i := 1) Tryd.underlying27 sz5 rfl rfl rfl (by decide)) ?_
      refine AH.take 7 rfl (by kernel_rfl) (by kernel_rfl) (by kernel_rfl) (fun _ _ _ _ h => h) (⟨hB1.trans hB1_d.symm, hB2.trans hB2_d.symm⟩) (by decide) (fun w hS => R.load Tryd.underlying5 rfl rfl (cell_at (hS.1.trans hB1_d) (SeedV.atAddr e1))) ?_
      refine AH.take 8 rfl (by kernel_rfl) (by kernel_rfl) (by kernel_rfl) (fun _ _ _ _ h => h) (⟨hB1.trans hB1_d.symm, hB2.trans hB2_d.symm⟩) (by decide) (fun w hS => FA50_3 rfl) ?_
      refine AH.take 9 rfl (by kernel_rfl) (by kernel_rfl) (by kernel_rfl) (fun _ _ _ _ h => h) (⟨hB1.trans hB1_d.symm, hB2.trans hB2_d.symm⟩) (by decide) (fun w hS => R.indexArr (i := 2) Tryd.underlying27 sz5 rfl rfl rfl (by decide)) ?_
      refine AH.take 10 rfl (by kernel_rfl) (by kernel_rfl) (by kernel_rfl) (fun _ _ _ _ h => h) (⟨hB1.trans hB1_d.symm, hB2.trans hB2_d.symm⟩) (by decide) (fun w hS => R.load Tryd.underlying5 rfl rfl (cell_at (hS.1.trans hB1_d) (SeedV.atAddr e2))) ?_
      refine AH.take 11 rfl (by kernel_rfl) (by kernel_rfl) (by kernel_rfl) (fun _ _ _ _ h => h) (⟨hB1.trans hB1_d.symm, hB2.trans hB2_d.symm⟩) (by decide) (fun w hS => FA50_3 rfl) ?_
      refine AH.take 12 rfl (by kernel_rfl) (by kernel_rfl) (by kernel_rfl) (fun _ _ _ _ h => h) (⟨hB1.trans hB1_d.symm, hB2.trans hB2_d.symm⟩) (by decide) (fun w hS => R.indexArr (i := 3) Tryd.underlying27 sz5 rfl rfl rfl (by decide)) ?_
      refine AH.take 13 rfl (by kernel_rfl) (by kernel_rfl) (by kernel_rfl) (fun _ _ _ _ h => h) (⟨hB1.trans hB1_d.symm, hB2.trans hB2_d.symm⟩) (by decide) (fun w hS => R.load Tryd.underlying5 rfl rfl (cell_at (hS.1.trans hB1_d) (SeedV.atAddr e3))) ?_
      refine AH.eff 14 (by kernel_rfl) rfl rfl (OP.buildSlice (parts := [(0, _), (1, _), (2, _), (3, _), (4, _), (5, _)]) (vals := [(0, u8v 255), (1, u8v 255), (2, _), (3, _), (4, _), (5, _)]) (cells := #[u8v 255, u8v 255, u8v c0, u8v c1, u8v c2, u8v c3]) (ty := 5) (by decide) rfl (fun w => slice6 c0 c1 c2 c3 w) ?_)
      intro w46 hc_w46 hs_w46 hN
      have hB1 := hc_w46.at hB1 (fun e => e)
      have hB2 := hc_w46.at hB2 (fun e => e)
      have hB3 := hc_w46.at hB3 (fun e => e)
      have hC := hC.trans hc_w46
      have hz_w46 := hc_w46.size
      refine ⟨⟨hB1.trans hB1_d.symm, hB2.trans hB2_d.symm⟩, ?_⟩
      refine AH.eff 15 (by kernel_rfl) rfl rfl (OP.copy (cs := [255, 255, c0, c1, c2, c3]) (by decide) rfl rfl hB3 rfl (cells_one6 hN) (by rw [List.size_toArray, Rec.length (by rfl)]; exact Nat.le_of_ble_eq_true rfl) ?_)
      intro w47 hc_w47 hs_w47 hB3
      have hB1 := hc_w47.at hB1 (fun e => by omega)
      have hB2 := hc_w47.at hB2 (fun e => by omega)
      have hC := hC.thenB hc_w47 (by omega)
      have hB3 : w47.heap[b3]? = some (.cells (Rec.cells ⟨nameN s.name, 1, s.ttl % 65536, mappedL ++ [c0, c1, c2, c3], [], []⟩).toArray 57 (0, 0)) := hB3
      refine ⟨⟨hB1.trans hB1_d.symm, hB2.trans hB2_d.symm⟩, ?_⟩
      refine AH.done (by kernel_rfl) ?_
      refine EW.inNormal ?_
      refine EW.next ?_
      refine CW.rseq ?_
      refine WL.op (by decide) (R.loadRB (by first | assumption | rfl) rfl hB3) ?_
      refine WL.eff rfl (OP.storeR rfl rfl (by first | assumption | rfl) (by first | assumption | rfl) hB2 ?_)
      intro w48 hc_w48 hs_w48 hB2
      have hB1 := hc_w48.at hB1 (fun e => by omega)
      have hB3 := hc_w48.at hB3 (fun e => by omega)
      have hC := hC.thenB hc_w48 (by omega)
      refine WL.next ?_
      refine CW.ret ?_
      have hR := rec_a (s := s) (by omega)
      rw [show mappedL ++ s.addr.take 4 = mappedL ++ [c0, c1, c2, c3] by rw [e4]] at hR
      exact EW.retC (.inl rfl) rfl rfl (cs := (recS s).cells) Tryd.underlying57 rfl (by rw [Rec.length (recS_addr hs16)]; exact sz57) (fun j u hj => cell_at hB2 (by rw [hR] at hj; rw [List.getElem?_toArray]; exact hj)) ⟨rfl, hC⟩
    · skip
      refine WL.op (by decide) (R.assign rfl) ?_
      refine WL.next ?_
      refine CW.condF rfl ?_
      refine CW.region ?_
      refine WL.eqlS (by decide) rfl rfl (fun h9 => ?_) (fun h9 => ?_)
      · skip
        refine WL.op (by decide) (R.assign rfl) ?_
        refine WL.nil ?_
        refine EW.next ?_
        refine CW.condT rfl ?_
        refine CW.rseq ?_
        refine WL.op (by decide) (FA57_1 rfl) ?_
        refine WL.eff rfl (OP.storeRType rfl rfl hB3 ?_)
        intro w49 hc_w49 hs_w49 hB3
        have hB1 := hc_w49.at hB1 (fun e => by omega)
        have hB2 := hc_w49.at hB2 (fun e => by omega)
        have hC := hC.thenB hc_w49 (by omega)
        refine WL.next ?_
        have hB1_d := hB1
        have hB2_d := hB2
        refine CW.draw (fun w => w.heap[b1]? = w49.heap[b1]? ∧ w.heap[b2]? = w49.heap[b2]?) (by kernel_rfl) ?_
        have hc_w50 : Chg (fun _ => False) w49 w49.drew := Chg.drew _ _
        obtain ⟨w50, he_w50⟩ : ∃ w, w = w49.drew := ⟨_, rfl⟩
        rw [← he_w50] at hc_w50 ⊢
        have hB1 := hc_w50.at hB1 (fun e => e)
        have hB2 := hc_w50.at hB2 (fun e => e)
        have hB3 := hc_w50.at hB3 (fun e => e)
        have hC := hC.trans hc_w50
        have hz_w50 := hc_w50.size
        refine AH.take 0 rfl (by kernel_rfl) (by kernel_rfl) (by kernel_rfl) (fun _ _ _ _ h => h) (⟨hB1.trans hB1_d.symm, hB2.trans hB2_d.symm⟩) (by decide) (fun w hS => FA57_3 rfl) ?_
        refine AH.take 1 rfl (by kernel_rfl) (by kernel_rfl) (by kernel_rfl) (fun _ _ _ _ h => h) (⟨hB1.trans hB1_d.symm, hB2.trans hB2_d.symm⟩) (by decide) (fun w hS => R.sliceArr (lo := some _) (hi := none) (hv := none) (lv := some (.int .i64 10)) (l1 := 10) (h1 := 16) Tryd.underlying27 sz5 rfl rfl rfl (by kernel_rfl) (by decide)) ?_
        refine AH.take 2 rfl (by kernel_rfl) (by kernel_rfl) (by kernel_rfl) (fun _ _ _ _ h => h) (⟨hB1.trans hB1_d.symm, hB2.trans hB2_d.symm⟩) (by decide) (fun w hS => FA50_3 rfl) ?_
        refine AH.take 3 rfl (by kernel_rfl) (by kernel_rfl) (by kernel_rfl) (fun _ _ _ _ h => h) (⟨hB1.trans hB1_d.symm, hB2.trans hB2_d.symm⟩) (by decide) (fun w hS => R.indexArr (i := 0) Tryd.underlying27 sz5 rfl rfl rfl (by decide)) ?_
        refine AH.take 4 rfl (by kernel_rfl) (by kernel_rfl) (by kernel_rfl) (fun _ _ _ _ h => h) (⟨hB1.trans hB1_d.symm, hB2.trans hB2_d.symm⟩) (by decide) (fun w hS => R.load Tryd.underlying5 rfl rfl (cell_at (hS.1.trans hB1_d) (SeedV.atAddr e0))) ?_
        refine AH.take 5 rfl (by kernel_rfl) (by kernel_rfl) (by kernel_rfl) (fun _ _ _ _ h => h) (⟨hB1.trans hB1_d.symm, hB2.trans hB2_d.symm⟩) (by decide) (fun w hS => FA50_3 rfl) ?_
        refine AH.take 6 rfl (by kernel_rfl) (by kernel_rfl) (by kernel_rfl) (fun _ _ _ _ h => h) (⟨hB1.trans hB1_d.symm, hB2.trans hB2_d.symm⟩) (by decide) (fun w hS => R.indexArr (i := 1) Tryd.underlying27 sz5 rfl rfl rfl (by decide)) ?_
        refine AH.take 7 rfl (by kernel_rfl) (by kernel_rfl) (by kernel_rfl) (fun _ _ _ _ h => h) (⟨hB1.trans hB1_d.symm, hB2.trans hB2_d.symm⟩) (by decide) (fun w hS => R.load Tryd.underlying5 rfl rfl (cell_at (hS.1.trans hB1_d) (SeedV.atAddr e1))) ?_
        refine AH.take 8 rfl (by kernel_rfl) (by kernel_rfl) (by kernel_rfl) (fun _ _ _ _ h => h) (⟨hB1.trans hB1_d.symm, hB2.trans hB2_d.symm⟩) (by decide) (fun w hS => FA50_3 rfl) ?_
        refine AH.take 9 rfl (by kernel_rfl) (by kernel_rfl) (by kernel_rfl) (fun _ _ _ _ h => h) (⟨hB1.trans hB1_d.symm, hB2.trans hB2_d.symm⟩) (by decide) (fun w hS => R.indexArr (i := 2) Tryd.underlying27 sz5 rfl rfl rfl (by decide)) ?_
        refine AH.take 10 rfl (by kernel_rfl) (by kernel_rfl) (by kernel_rfl) (fun _ _ _ _ h => h) (⟨hB1.trans hB1_d.symm, hB2.trans hB2_d.symm⟩) (by decide) (fun w hS => R.load Tryd.underlying5 rfl rfl (cell_at (hS.1.trans hB1_d) (SeedV.atAddr e2))) ?_
        refine AH.take 11 rfl (by kernel_rfl) (by kernel_rfl) (by kernel_rfl) (fun _ _ _ _ h => h) (⟨hB1.trans hB1_d.symm, hB2.trans hB2_d.symm⟩) (by decide) (fun w hS => FA50_3 rfl) ?_
        refine AH.take 12 rfl (by kernel_rfl) (by kernel_rfl) (by kernel_rfl) (fun _ _ _ _ h => h) (⟨hB1.trans hB1_d.symm, hB2.trans hB2_d.symm⟩) (by decide) (fun w hS => R.indexArr (i := 3) Tryd.underlying27 sz5 rfl rfl rfl (by decide)) ?_
        refine AH.take 13 rfl (by kernel_rfl) (by kernel_rfl) (by kernel_rfl) (fun _ _ _ _ h => h) (⟨hB1.trans hB1_d.symm, hB2.trans hB2_d.symm⟩) (by decide) (fun w hS => R.load Tryd.underlying5 rfl rfl (cell_at (hS.1.trans hB1_d) (SeedV.atAddr e3))) ?_
        refine AH.eff 14 (by kernel_rfl) rfl rfl (OP.buildSlice (parts := [(0, _), (1, _), (2, _), (3, _), (4, _), (5, _)]) (vals := [(0, u8v 255), (1, u8v 255), (2, _), (3, _), (4, _), (5, _)]) (cells := #[u8v 255, u8v 255, u8v c0, u8v c1, u8v c2, u8v c3]) (ty := 5) (by decide) rfl (fun w => slice6 c0 c1 c2 c3 w) ?_)
        intro w51 hc_w51 hs_w51 hN
        have hB1 := hc_w51.at hB1 (fun e => e)
        have hB2 := hc_w51.at hB2 (fun e => e)
        have hB3 := hc_w51.at hB3 (fun e => e)
        have hC := hC.trans hc_w51
        have hz_w51 := hc_w51.size
        refine ⟨⟨hB1.trans hB1_d.symm, hB2.trans hB2_d.symm⟩, ?_⟩
        refine AH.eff 15 (by kernel_rfl) rfl rfl (OP.copy (cs := [255, 255, c0, c1, c2, c3]) (by decide) rfl rfl hB3 rfl (cells_one6 hN) (by rw [List.size_toArray, Rec.length (by rfl)]; exact Nat.le_of_ble_eq_true rfl) ?_)
        intro w52 hc_w52 hs_w52 hB3
        have hB1 := hc_w52.at hB1 (fun e => by omega)
        have hB2 := hc_w52.at hB2 (fun e => by omega)
        have hC := hC.thenB hc_w52 (by omega)
        have hB3 : w52.heap[b3]? = some (.cells (Rec.cells ⟨nameN s.name, 1, s.ttl % 65536, mappedL ++ [c0, c1, c2, c3], [], []⟩).toArray 57 (0, 0)) := hB3
        refine ⟨⟨hB1.trans hB1_d.symm, hB2.trans hB2_d.symm⟩, ?_⟩
        refine AH.done (by kernel_rfl) ?_
        refine EW.inNormal ?_
        refine EW.next ?_
        refine CW.rseq ?_
        refine WL.op (by decide) (R.loadRB (by first | assumption | rfl) rfl hB3) ?_
        refine WL.eff rfl (OP.storeR rfl rfl (by first | assumption | rfl) (by first | assumption | rfl) hB2 ?_)
        intro w53 hc_w53 hs_w53 hB2
        have hB1 := hc_w53.at hB1 (fun e => by omega)
        have hB3 := hc_w53.at hB3 (fun e => by omega)
        have hC := hC.thenB hc_w53 (by omega)
        refine WL.next ?_
        refine CW.ret ?_
        have hR := rec_a (s := s) (by omega)
        rw [show mappedL ++ s.addr.take 4 = mappedL ++ [c0, c1, c2, c3] by rw [e4]] at hR
        exact EW.retC (.inl rfl) rfl rfl (cs := (recS s).cells) Tryd.underlying57 rfl (by rw [Rec.length (recS_addr hs16)]; exact sz57) (fun j u hj => cell_at hB2 (by rw [hR] at hj; rw [List.getElem?_toArray]; exact hj)) ⟨rfl, hC⟩
      · skip
        refine WL.op (by decide) (R.assign rfl) ?_
        refine WL.nil ?_
        refine EW.next ?_
        refine CW.condF rfl ?_
        refine CW.seq ?_
        refine CW.rseq ?_
        refine WL.eqlS (by decide) rfl rfl (fun h10 => ?_) (fun h10 => ?_)
        · skip
          refine WL.op (by decide) (R.assign rfl) ?_
          refine WL.next ?_
          refine CW.condT rfl ?_
          refine CW.skip ?_
          refine EW.next ?_
          refine CW.condT rfl ?_
          have hB1_d := hB1
          have hB2_d := hB2
          refine CW.draw (fun w => w.heap[b1]? = w43.heap[b1]? ∧ w.heap[b2]? = w43.heap[b2]?) (by kernel_rfl) ?_
          have hc_w54 : Chg (fun _ => False) w43 w43.drew := Chg.drew _ _
          obtain ⟨w54, he_w54⟩ : ∃ w, w = w43.drew := ⟨_, rfl⟩
          rw [← he_w54] at hc_w54 ⊢
          have hB1 := hc_w54.at hB1 (fun e => e)
          have hB2 := hc_w54.at hB2 (fun e => e)
          have hB3 := hc_w54.at hB3 (fun e => e)
          have hC := hC.trans hc_w54
          have hz_w54 := hc_w54.size
          refine AH.take 0 rfl (by kernel_rfl) (by kernel_rfl) (by kernel_rfl) (fun _ _ _ _ h => h) (⟨hB1.trans hB1_d.symm, hB2.trans hB2_d.symm⟩) (by decide) (fun w hS => FA50_3 rfl) ?_
          refine AH.take 1 rfl (by kernel_rfl) (by kernel_rfl) (by kernel_rfl) (fun _ _ _ _ h => h) (⟨hB1.trans hB1_d.symm, hB2.trans hB2_d.symm⟩) (by decide) (fun w hS => R.loadSdA (by assumption) rfl (hS.1.trans hB1_d)) ?_
          refine AH.take 2 rfl (by kernel_rfl) (by kernel_rfl) (by kernel_rfl) (fun _ _ _ _ h => h) (⟨hB1.trans hB1_d.symm, hB2.trans hB2_d.symm⟩) (by decide) (fun w hS => FA57_1 rfl) ?_
          refine AH.eff 3 (by kernel_rfl) rfl rfl (OP.storeRType rfl rfl hB3 ?_)
          intro w55 hc_w55 hs_w55 hB3
          have hB1 := hc_w55.at hB1 (fun e => by omega)
          have hB2 := hc_w55.at hB2 (fun e => by omega)
          have hC := hC.thenB hc_w55 (by omega)
          refine ⟨⟨hB1.trans hB1_d.symm, hB2.trans hB2_d.symm⟩, ?_⟩
          refine AH.take 4 rfl (by kernel_rfl) (by kernel_rfl) (by kernel_rfl) (fun _ _ _ _ h => h) (⟨hB1.trans hB1_d.symm, hB2.trans hB2_d.symm⟩) (by decide) (fun w hS => FA57_3 rfl) ?_
          refine AH.eff 5 (by kernel_rfl) rfl rfl (OP.storeRAddr (by first | assumption | rfl) (by first | assumption | rfl) rfl rfl hB3 ?_)
          intro w56 hc_w56 hs_w56 hB3
          have hB1 := hc_w56.at hB1 (fun e => by omega)
          have hB2 := hc_w56.at hB2 (fun e => by omega)
          have hC := hC.thenB hc_w56 (by omega)
          refine ⟨⟨hB1.trans hB1_d.symm, hB2.trans hB2_d.symm⟩, ?_⟩
          refine AH.done (by kernel_rfl) ?_
          refine EW.inNormal ?_
          refine EW.next ?_
          refine CW.rseq ?_
          refine WL.op (by decide) (R.loadRB (by first | assumption | rfl) rfl hB3) ?_
          refine WL.eff rfl (OP.storeR rfl rfl (by first | assumption | rfl) (by first | assumption | rfl) hB2 ?_)
          intro w57 hc_w57 hs_w57 hB2
          have hB1 := hc_w57.at hB1 (fun e => by omega)
          have hB3 := hc_w57.at hB3 (fun e => by omega)
          have hC := hC.thenB hc_w57 (by omega)
          refine WL.next ?_
          refine CW.ret ?_
          have hR := rec_b (s := s) (by omega)
          exact EW.retC (.inl rfl) rfl rfl (cs := (recS s).cells) Tryd.underlying57 rfl (by rw [Rec.length (recS_addr hs16)]; exact sz57) (fun j u hj => cell_at hB2 (by rw [hR] at hj; rw [List.getElem?_toArray]; exact hj)) ⟨rfl, hC⟩
        · skip
          refine WL.op (by decide) (R.assign rfl) ?_
          refine WL.next ?_
          refine CW.condF rfl ?_
          refine CW.region ?_
          refine WL.eqlS (by decide) rfl rfl (fun h11 => ?_) (fun h11 => ?_)
          · skip
            refine WL.op (by decide) (R.assign rfl) ?_
            refine WL.nil ?_
            refine EW.next ?_
            refine CW.condT rfl ?_
            have hB1_d := hB1
            have hB2_d := hB2
            refine CW.draw (fun w => w.heap[b1]? = w43.heap[b1]? ∧ w.heap[b2]? = w43.heap[b2]?) (by kernel_rfl) ?_
            have hc_w58 : Chg (fun _ => False) w43 w43.drew := Chg.drew _ _
            obtain ⟨w58, he_w58⟩ : ∃ w, w = w43.drew := ⟨_, rfl⟩
            rw [← he_w58] at hc_w58 ⊢
            have hB1 := hc_w58.at hB1 (fun e => e)
            have hB2 := hc_w58.at hB2 (fun e => e)
            have hB3 := hc_w58.at hB3 (fun e => e)
            have hC := hC.trans hc_w58
            have hz_w58 := hc_w58.size
            refine AH.take 0 rfl (by kernel_rfl) (by kernel_rfl) (by kernel_rfl) (fun _ _ _ _ h => h) (⟨hB1.trans hB1_d.symm, hB2.trans hB2_d.symm⟩) (by decide) (fun w hS => FA50_3 rfl) ?_
            refine AH.take 1 rfl (by kernel_rfl) (by kernel_rfl) (by kernel_rfl) (fun _ _ _ _ h => h) (⟨hB1.trans hB1_d.symm, hB2.trans hB2_d.symm⟩) (by decide) (fun w hS => R.loadSdA (by assumption) rfl (hS.1.trans hB1_d)) ?_
            refine AH.take 2 rfl (by kernel_rfl) (by kernel_rfl) (by kernel_rfl) (fun _ _ _ _ h => h) (⟨hB1.trans hB1_d.symm, hB2.trans hB2_d.symm⟩) (by decide) (fun w hS => FA57_1 rfl) ?_
            refine AH.eff 3 (by kernel_rfl) rfl rfl (OP.storeRType rfl rfl hB3 ?_)
            intro w59 hc_w59 hs_w59 hB3
            have hB1 := hc_w59.at hB1 (fun e => by omega)
            have hB2 := hc_w59.at hB2 (fun e => by omega)
            have hC := hC.thenB hc_w59 (by omega)
            refine ⟨⟨hB1.trans hB1_d.symm, hB2.trans hB2_d.symm⟩, ?_⟩
            refine AH.take 4 rfl (by kernel_rfl) (by kernel_rfl) (by kernel_rfl) (fun _ _ _ _ h => h) (⟨hB1.trans hB1_d.symm, hB2.trans hB2_d.symm⟩) (by decide) (fun w hS => FA57_3 rfl) ?_
            refine AH.eff 5 (by kernel_rfl) rfl rfl (OP.storeRAddr (by first | assumption | rfl) (by first | assumption | rfl) rfl rfl hB3 ?_)
            intro w60 hc_w60 hs_w60 hB3
            have hB1 := hc_w60.at hB1 (fun e => by omega)
            have hB2 := hc_w60.at hB2 (fun e => by omega)
            have hC := hC.thenB hc_w60 (by omega)
            refine ⟨⟨hB1.trans hB1_d.symm, hB2.trans hB2_d.symm⟩, ?_⟩
            refine AH.done (by kernel_rfl) ?_
            refine EW.inNormal ?_
            refine EW.next ?_
            refine CW.rseq ?_
            refine WL.op (by decide) (R.loadRB (by first | assumption | rfl) rfl hB3) ?_
            refine WL.eff rfl (OP.storeR rfl rfl (by first | assumption | rfl) (by first | assumption | rfl) hB2 ?_)
            intro w61 hc_w61 hs_w61 hB2
            have hB1 := hc_w61.at hB1 (fun e => by omega)
            have hB3 := hc_w61.at hB3 (fun e => by omega)
            have hC := hC.thenB hc_w61 (by omega)
            refine WL.next ?_
            refine CW.ret ?_
            have hR := rec_b (s := s) (by omega)
            exact EW.retC (.inl rfl) rfl rfl (cs := (recS s).cells) Tryd.underlying57 rfl (by rw [Rec.length (recS_addr hs16)]; exact sz57) (fun j u hj => cell_at hB2 (by rw [hR] at hj; rw [List.getElem?_toArray]; exact hj)) ⟨rfl, hC⟩
          · skip
            refine WL.op (by decide) (R.assign rfl) ?_
            refine WL.nil ?_
            refine EW.next ?_
            refine CW.condF rfl ?_
            refine CW.rseq ?_
            refine WL.eqlS (by decide) rfl rfl (fun h12 => ?_) (fun h12 => ?_)
            · skip
              refine WL.op (by decide) (R.assign rfl) ?_
              refine WL.next ?_
              refine CW.condT rfl ?_
              refine CW.region ?_
              refine WL.op (by decide) (FA50_0 rfl) ?_
              refine WL.op (by decide) (R.load Tryd.underlying3 rfl rfl (cell_at hB1 rfl)) ?_
              refine WL.op (by decide) (R.shr rfl rfl (by omega)) ?_
              refine WL.eff rfl (OP.call (by decide) Tryd.func33 (by kernel_rfl) (by kernel_rfl) rfl (name_any _ _) ?_)
              rintro ed w62 ⟨rfl, hc_w62⟩
              refine ⟨_, rfl, ?_⟩
              have hB1 := hc_w62.at hB1 (fun e => e)
              have hB2 := hc_w62.at hB2 (fun e => e)
              have hB3 := hc_w62.at hB3 (fun e => e)
              have hC := hC.trans hc_w62
              have hz_w62 := hc_w62.size
              refine WL.op (by decide) (FA57_1 rfl) ?_
              refine WL.eff rfl (OP.storeRType rfl rfl hB3 ?_)
              intro w63 hc_w63 hs_w63 hB3
              have hB1 := hc_w63.at hB1 (fun e => by omega)
              have hB2 := hc_w63.at hB2 (fun e => by omega)
              have hC := hC.thenB hc_w63 (by omega)
              refine WL.op (by decide) (FA57_4 rfl) ?_
              refine WL.eff rfl (OP.storeRText (by first | assumption | rfl) rfl rfl hB3 ?_)
              intro w64 hc_w64 hs_w64 hB3
              have hB1 := hc_w64.at hB1 (fun e => by omega)
              have hB2 := hc_w64.at hB2 (fun e => by omega)
              have hC := hC.thenB hc_w64 (by omega)
              refine WL.nil ?_
              refine EW.inNormal ?_
              refine EW.next ?_
              refine CW.rseq ?_
              refine WL.op (by decide) (R.loadRB (by first | assumption | rfl) rfl hB3) ?_
              refine WL.eff rfl (OP.storeR rfl rfl (by first | assumption | rfl) (by first | assumption | rfl) hB2 ?_)
              intro w65 hc_w65 hs_w65 hB2
              have hB1 := hc_w65.at hB1 (fun e => by omega)
              have hB3 := hc_w65.at hB3 (fun e => by omega)
              have hC := hC.thenB hc_w65 (by omega)
              refine WL.next ?_
              refine CW.ret ?_
              have hR := rec_c (s := s) (by omega)
              exact EW.retC (.inl rfl) rfl rfl (cs := (recS s).cells) Tryd.underlying57 rfl (by rw [Rec.length (recS_addr hs16)]; exact sz57) (fun j u hj => cell_at hB2 (by rw [hR] at hj; rw [List.getElem?_toArray]; exact hj)) ⟨rfl, hC⟩
            · skip
              refine WL.op (by decide) (R.assign rfl) ?_
              refine WL.next ?_
              refine CW.condF rfl ?_
              refine CW.rseq ?_
              refine WL.eqlS (by decide) rfl rfl (fun h13 => ?_) (fun h13 => ?_)
              · skip
                refine WL.op (by decide) (R.assign rfl) ?_
                refine WL.next ?_
                refine CW.condT rfl ?_
                refine CW.region ?_
                refine WL.op (by decide) (FA50_0 rfl) ?_
                refine WL.op (by decide) (R.load Tryd.underlying3 rfl rfl (cell_at hB1 rfl)) ?_
                refine WL.op (by decide) (R.shr rfl rfl (by omega)) ?_
                refine WL.eff rfl (OP.call (by decide) Tryd.func33 (by kernel_rfl) (by kernel_rfl) rfl (name_any _ _) ?_)
                rintro ed w66 ⟨rfl, hc_w66⟩
                refine ⟨_, rfl, ?_⟩
                have hB1 := hc_w66.at hB1 (fun e => e)
                have hB2 := hc_w66.at hB2 (fun e => e)
                have hB3 := hc_w66.at hB3 (fun e => e)
                have hC := hC.trans hc_w66
                have hz_w66 := hc_w66.size
                refine WL.op (by decide) (FA57_1 rfl) ?_
                refine WL.eff rfl (OP.storeRType rfl rfl hB3 ?_)
                intro w67 hc_w67 hs_w67 hB3
                have hB1 := hc_w67.at hB1 (fun e => by omega)
                have hB2 := hc_w67.at hB2 (fun e => by omega)
                have hC := hC.thenB hc_w67 (by omega)
                refine WL.op (by decide) (FA57_4 rfl) ?_
                refine WL.eff rfl (OP.storeRText (by first | assumption | rfl) rfl rfl hB3 ?_)
                intro w68 hc_w68 hs_w68 hB3
                have hB1 := hc_w68.at hB1 (fun e => by omega)
                have hB2 := hc_w68.at hB2 (fun e => by omega)
                have hC := hC.thenB hc_w68 (by omega)
                refine WL.nil ?_
                refine EW.inNormal ?_
                refine EW.next ?_
                refine CW.rseq ?_
                refine WL.op (by decide) (R.loadRB (by first | assumption | rfl) rfl hB3) ?_
                refine WL.eff rfl (OP.storeR rfl rfl (by first | assumption | rfl) (by first | assumption | rfl) hB2 ?_)
                intro w69 hc_w69 hs_w69 hB2
                have hB1 := hc_w69.at hB1 (fun e => by omega)
                have hB3 := hc_w69.at hB3 (fun e => by omega)
                have hC := hC.thenB hc_w69 (by omega)
                refine WL.next ?_
                refine CW.ret ?_
                have hR := rec_d (s := s) (by omega)
                exact EW.retC (.inl rfl) rfl rfl (cs := (recS s).cells) Tryd.underlying57 rfl (by rw [Rec.length (recS_addr hs16)]; exact sz57) (fun j u hj => cell_at hB2 (by rw [hR] at hj; rw [List.getElem?_toArray]; exact hj)) ⟨rfl, hC⟩
              · skip
                refine WL.op (by decide) (R.assign rfl) ?_
                refine WL.next ?_
                refine CW.condF rfl ?_
                refine CW.rseq ?_
                refine WL.eqlS (by decide) rfl rfl (fun h14 => ?_) (fun h14 => ?_)
                · skip
                  refine WL.op (by decide) (R.assign rfl) ?_
                  refine WL.next ?_
                  refine CW.condT rfl ?_
                  have hB1_d := hB1
                  have hB2_d := hB2
                  refine CW.draw (fun w => w.heap[b1]? = w43.heap[b1]? ∧ w.heap[b2]? = w43.heap[b2]?) (by kernel_rfl) ?_
                  have hc_w70 : Chg (fun _ => False) w43 w43.drew := Chg.drew _ _
                  obtain ⟨w70, he_w70⟩ : ∃ w, w = w43.drew := ⟨_, rfl⟩
                  rw [← he_w70] at hc_w70 ⊢
                  have hB1 := hc_w70.at hB1 (fun e => e)
                  have hB2 := hc_w70.at hB2 (fun e => e)
                  have hB3 := hc_w70.at hB3 (fun e => e)
                  have hC := hC.trans hc_w70
                  have hz_w70 := hc_w70.size
                  refine AH.take 0 rfl (by kernel_rfl) (by kernel_rfl) (by kernel_rfl) (fun _ _ _ _ h => h) (⟨hB1.trans hB1_d.symm, hB2.trans hB2_d.symm⟩) (by decide) (fun w hS => FA50_4 rfl) ?_
                  refine AH.take 1 rfl (by kernel_rfl) (by kernel_rfl) (by kernel_rfl) (fun _ _ _ _ h => h) (⟨hB1.trans hB1_d.symm, hB2.trans hB2_d.symm⟩) (by decide) (fun w hS => R.load Tryd.underlying9 rfl rfl (cell_at (hS.1.trans hB1_d) (SeedV.at19 (by assumption)))) ?_
                  refine AH.take 2 rfl (by kernel_rfl) (by kernel_rfl) (by kernel_rfl) (fun _ _ _ _ h => h) (⟨hB1.trans hB1_d.symm, hB2.trans hB2_d.symm⟩) (by decide) (fun w hS => FA50_4 rfl) ?_
                  refine AH.take 3 rfl (by kernel_rfl) (by kernel_rfl) (by kernel_rfl) (fun _ _ _ _ h => h) (⟨hB1.trans hB1_d.symm, hB2.trans hB2_d.symm⟩) (by decide) (fun w hS => R.load Tryd.underlying9 rfl rfl (cell_at (hS.1.trans hB1_d) (SeedV.at19 (by assumption)))) ?_
                  refine AH.take 4 rfl (by kernel_rfl) (by kernel_rfl) (by kernel_rfl) (fun _ _ _ _ h => h) (⟨hB1.trans hB1_d.symm, hB2.trans hB2_d.symm⟩) (by decide) (fun w hS => R.lenS rfl rfl) ?_
                  refine AH.take 5 rfl (by kernel_rfl) (by kernel_rfl) (by kernel_rfl) (fun _ _ _ _ h => h) (⟨hB1.trans hB1_d.symm, hB2.trans hB2_d.symm⟩) (by decide) (fun w hS => R.minC rfl rfl) ?_
                  refine AH.take 6 rfl (by kernel_rfl) (by kernel_rfl) (by kernel_rfl) (fun _ _ _ _ h => h) (⟨hB1.trans hB1_d.symm, hB2.trans hB2_d.symm⟩) (by decide) (fun w hS => R.sliceHi rfl rfl) ?_
                  refine AH.take 7 rfl (by kernel_rfl) (by kernel_rfl) (by kernel_rfl) (fun _ _ _ _ h => h) (⟨hB1.trans hB1_d.symm, hB2.trans hB2_d.symm⟩) (by decide) (fun w hS => FA57_1 rfl) ?_
                  refine AH.eff 8 (by kernel_rfl) rfl rfl (OP.storeRType rfl rfl hB3 ?_)
                  intro w71 hc_w71 hs_w71 hB3
                  have hB1 := hc_w71.at hB1 (fun e => by omega)
                  have hB2 := hc_w71.at hB2 (fun e => by omega)
                  have hC := hC.thenB hc_w71 (by omega)
                  refine ⟨⟨hB1.trans hB1_d.symm, hB2.trans hB2_d.symm⟩, ?_⟩
                  refine AH.take 9 rfl (by kernel_rfl) (by kernel_rfl) (by kernel_rfl) (fun _ _ _ _ h => h) (⟨hB1.trans hB1_d.symm, hB2.trans hB2_d.symm⟩) (by decide) (fun w hS => FA57_5 rfl) ?_
                  refine AH.eff 10 (by kernel_rfl) rfl rfl (OP.storeRData (by first | assumption | rfl) rfl rfl hB3 ?_)
                  intro w72 hc_w72 hs_w72 hB3
                  have hB1 := hc_w72.at hB1 (fun e => by omega)
                  have hB2 := hc_w72.at hB2 (fun e => by omega)
                  have hC := hC.thenB hc_w72 (by omega)
                  refine ⟨⟨hB1.trans hB1_d.symm, hB2.trans hB2_d.symm⟩, ?_⟩
                  refine AH.done (by kernel_rfl) ?_
                  refine EW.inNormal ?_
                  refine EW.next ?_
                  refine CW.rseq ?_
                  refine WL.op (by decide) (R.loadRB (by first | assumption | rfl) rfl hB3) ?_
                  refine WL.eff rfl (OP.storeR rfl rfl (by first | assumption | rfl) (by first | assumption | rfl) hB2 ?_)
                  intro w73 hc_w73 hs_w73 hB2
                  have hB1 := hc_w73.at hB1 (fun e => by omega)
                  have hB3 := hc_w73.at hB3 (fun e => by omega)
                  have hC := hC.thenB hc_w73 (by omega)
                  refine WL.next ?_
                  refine CW.ret ?_
                  have hR := rec_e (s := s) (by omega)
                  exact EW.retC (.inl rfl) rfl rfl (cs := (recS s).cells) Tryd.underlying57 rfl (by rw [Rec.length (recS_addr hs16)]; exact sz57) (fun j u hj => cell_at hB2 (by rw [hR] at hj; rw [List.getElem?_toArray]; exact hj)) ⟨rfl, hC⟩
                · skip
                  refine WL.op (by decide) (R.assign rfl) ?_
                  refine WL.next ?_
                  refine CW.condF rfl ?_
                  have hB1_d := hB1
                  have hB2_d := hB2
                  refine CW.draw (fun w => w.heap[b1]? = w43.heap[b1]? ∧ w.heap[b2]? = w43.heap[b2]?) (by kernel_rfl) ?_
                  have hc_w74 : Chg (fun _ => False) w43 w43.drew := Chg.drew _ _
                  obtain ⟨w74, he_w74⟩ : ∃ w, w = w43.drew := ⟨_, rfl⟩
                  rw [← he_w74] at hc_w74 ⊢
                  have hB1 := hc_w74.at hB1 (fun e => e)
                  have hB2 := hc_w74.at hB2 (fun e => e)
                  have hB3 := hc_w74.at hB3 (fun e => e)
                  have hC := hC.trans hc_w74
                  have hz_w74 := hc_w74.size
                  refine AH.take 0 rfl (by kernel_rfl) (by kernel_rfl) (by kernel_rfl) (fun _ _ _ _ h => h) (⟨hB1.trans hB1_d.symm, hB2.trans hB2_d.symm⟩) (by decide) (fun w hS => FA50_4 rfl) ?_
                  refine AH.take 1 rfl (by kernel_rfl) (by kernel_rfl) (by kernel_rfl) (fun _ _ _ _ h => h) (⟨hB1.trans hB1_d.symm, hB2.trans hB2_d.symm⟩) (by decide) (fun w hS => R.load Tryd.underlying9 rfl rfl (cell_at (hS.1.trans hB1_d) (SeedV.at19 (by assumption)))) ?_
                  refine AH.take 2 rfl (by kernel_rfl) (by kernel_rfl) (by kernel_rfl) (fun _ _ _ _ h => h) (⟨hB1.trans hB1_d.symm, hB2.trans hB2_d.symm⟩) (by decide) (fun w hS => FA50_4 rfl) ?_
                  refine AH.take 3 rfl (by kernel_rfl) (by kernel_rfl) (by kernel_rfl) (fun _ _ _ _ h => h) (⟨hB1.trans hB1_d.symm, hB2.trans hB2_d.symm⟩) (by decide) (fun w hS => R.load Tryd.underlying9 rfl rfl (cell_at (hS.1.trans hB1_d) (SeedV.at19 (by assumption)))) ?_
                  refine AH.take 4 rfl (by kernel_rfl) (by kernel_rfl) (by kernel_rfl) (fun _ _ _ _ h => h) (⟨hB1.trans hB1_d.symm, hB2.trans hB2_d.symm⟩) (by decide) (fun w hS => R.lenS rfl rfl) ?_
                  refine AH.take 5 rfl (by kernel_rfl) (by kernel_rfl) (by kernel_rfl) (fun _ _ _ _ h => h) (⟨hB1.trans hB1_d.symm, hB2.trans hB2_d.symm⟩) (by decide) (fun w hS => R.minC rfl rfl) ?_
                  refine AH.take 6 rfl (by kernel_rfl) (by kernel_rfl) (by kernel_rfl) (fun _ _ _ _ h => h) (⟨hB1.trans hB1_d.symm, hB2.trans hB2_d.symm⟩) (by decide) (fun w hS => R.sliceHi rfl rfl) ?_
                  refine AH.take 7 rfl (by kernel_rfl) (by kernel_rfl) (by kernel_rfl) (fun _ _ _ _ h => h) (⟨hB1.trans hB1_d.symm, hB2.trans hB2_d.symm⟩) (by decide) (fun w hS => FA57_1 rfl) ?_
                  refine AH.eff 8 (by kernel_rfl) rfl rfl (OP.storeRType rfl rfl hB3 ?_)
                  intro w75 hc_w75 hs_w75 hB3
                  have hB1 := hc_w75.at hB1 (fun e => by omega)
                  have hB2 := hc_w75.at hB2 (fun e => by omega)
                  have hC := hC.thenB hc_w75 (by omega)
                  refine ⟨⟨hB1.trans hB1_d.symm, hB2.trans hB2_d.symm⟩, ?_⟩
                  refine AH.take 9 rfl (by kernel_rfl) (by kernel_rfl) (by kernel_rfl) (fun _ _ _ _ h => h) (⟨hB1.trans hB1_d.symm, hB2.trans hB2_d.symm⟩) (by decide) (fun w hS => FA57_5 rfl) ?_
                  refine AH.eff 10 (by kernel_rfl) rfl rfl (OP.storeRData (by first | assumption | rfl) rfl rfl hB3 ?_)
                  intro w76 hc_w76 hs_w76 hB3
                  have hB1 := hc_w76.at hB1 (fun e => by omega)
                  have hB2 := hc_w76.at hB2 (fun e => by omega)
                  have hC := hC.thenB hc_w76 (by omega)
                  refine ⟨⟨hB1.trans hB1_d.symm, hB2.trans hB2_d.symm⟩, ?_⟩
                  refine AH.done (by kernel_rfl) ?_
                  refine EW.inNormal ?_
                  refine EW.next ?_
                  refine CW.rseq ?_
                  refine WL.op (by decide) (R.loadRB (by first | assumption | rfl) rfl hB3) ?_
                  refine WL.eff rfl (OP.storeR rfl rfl (by first | assumption | rfl) (by first | assumption | rfl) hB2 ?_)
                  intro w77 hc_w77 hs_w77 hB2
                  have hB1 := hc_w77.at hB1 (fun e => by omega)
                  have hB3 := hc_w77.at hB3 (fun e => by omega)
                  have hC := hC.thenB hc_w77 (by omega)
                  refine WL.next ?_
                  refine CW.ret ?_
                  have hR := rec_f (s := s) (by omega) (by omega)
                  exact EW.retC (.inl rfl) rfl rfl (cs := (recS s).cells) Tryd.underlying57 rfl (by rw [Rec.length (recS_addr hs16)]; exact sz57) (fun j u hj => cell_at hB2 (by rw [hR] at hj; rw [List.getElem?_toArray]; exact hj)) ⟨rfl, hC⟩
end Go.Proofs.YthcpjcgjmdfpjaaDoor

namespace Go.Proofs.YthcpjcgjmdfpjaaDoor
open Go Go.RowKit
set_option maxRecDepth 100000
set_option maxHeartbeats 4000000

theorem R.field1 {l : Env} {w : World} {x : Operand} {t i : Nat} {fs : Array Field} {fd : Field} {d : TypeDesc} {cs : Array Value} {v : Value} (ht : Tryd.prog.underlying t = some (.struct fs)) (hf : fs[i]? = some fd) (hu : Tryd.prog.underlying fd.type = some d) (hd : isAggD d = false) (hx : ev l x = some (.agg cs)) (hv : cs[fd.offset]? = some v) : Runs Tryd.prog l (.field t x i) w v w := fun r _ _ _ _ _ he => by
  have hp := run_part1 (P := Tryd.prog) hu hd (cs := cs) (i := fd.offset) hv w
  simp only [execOp, he x _ hx, Instr.field, Sem.run_bind, run_underlying ht, Result.andThen_ok, hf, asAgg, Sem.run_pure, hp]
theorem slice_codes (w : World) : (Instr.buildSlice 65 4 #[(0, .int .i64 0), (1, .int .i64 0), (2, .int .i64 3), (3, .int .i64 2)]).run Tryd.prog w = .ok (.slice (some ⟨w.heap.size, 0, none⟩) 4 4) (w.alloc (.cells (codesA.map (Value.int .i64)).toArray 3)) := by kernel_rfl
theorem build33_6 (id : Int) (a b c : Bool) (code : Int) (s : List UInt8) (ty : Int) (w : World) : (Instr.build 33 #[(0, .int .i64 id), (1, .bool a), (2, .bool b), (3, .bool c), (4, .int .i64 code), (5, .agg #[sv s, .int .i64 ty])]).run Tryd.prog w = .ok (.agg (Msg.cells ⟨id, a, b, c, code, s, ty, [], []⟩ (.slice none 0 0) (.slice none 0 0)).toArray) w := by unfold sv; kernel_rfl
def msgH (id f : Int) (q : SeedV) : Msg := ⟨id % 65536, decide (f % 2 > 0), decide (bitI 1 f > 0), decide (bitI 2 f > 0), codeN f, nameN q.name, (recS q).type, [], []⟩
def withR (m : Msg) (a b : List Rec) : Msg := ⟨m.id, m.reply, m.trunc, m.recur, m.code, m.qname, m.qtype, a, b⟩
/-- Two slices that share no block. -/
def Dis (a b : Value) : Prop := ∀ k, a.ownBlock = some k → b.ownBlock = some k → False
theorem append_two {w w' : World} {base : Nat} {va va' vb : Value} {rs qs : List Rec} {r : Rec} (hA : RBuf w base va rs) (hB : RBuf w base vb qs) (hD : Dis va vb) (_hN : RBuf w' base va' (rs ++ [r])) (hM : Moved w w' va va') : RBuf w' base vb qs ∧ Dis va' vb ∧ Chg (fun k => base ≤ k) w w' := by
  have hc := Chg.moved hM
  refine ⟨hB.kept hc (fun k e1 e2 => hD k e2.symm e1), fun k e1 e2 => ?_, hc.mono (fun k _ e => (hA.lt k e.symm).1)⟩
  rcases hM.at_ with h | ⟨j, h, hj⟩
  · exact hD k (h ▸ e1) e2
  · rw [h] at e1
    have := (hB.lt k e2).2
    have := Option.some.inj e1
    omega
theorem take_snoc {l : List SeedV} {j : Nat} {s : SeedV} (hs : l[j]? = some s) : l.take (j + 1) = l.take j ++ [s] := by rw [List.take_add_one, hs]; rfl
theorem ans_snoc {l : List SeedV} {j : Nat} {s : SeedV} (hs : l[j]? = some s) (h : isSoa (recS s) = false) : ansS (l.take (j + 1)) = ansS (l.take j) ++ [recS s] := by
  rw [take_snoc hs]; simp [ansS, h]
theorem ans_same {l : List SeedV} {j : Nat} {s : SeedV} (hs : l[j]? = some s) (h : isSoa (recS s) = true) : ansS (l.take (j + 1)) = ansS (l.take j) := by
  rw [take_snoc hs]; simp [ansS, h]
theorem auth_snoc {l : List SeedV} {j : Nat} {s : SeedV} (hs : l[j]? = some s) (h : isSoa (recS s) = true) : authS (l.take (j + 1)) = authS (l.take j) ++ [recS s] := by
  rw [take_snoc hs]; simp [authS, h]
theorem auth_same {l : List SeedV} {j : Nat} {s : SeedV} (hs : l[j]? = some s) (h : isSoa (recS s) = false) : authS (l.take (j + 1)) = authS (l.take j) := by
  rw [take_snoc hs]; simp [authS, h]
theorem ans_len (l : List SeedV) (j : Nat) : (ansS (l.take j)).length ≤ j := by
  have := filter_two isSoa ((l.take j).map recS)
  have e : ansS (l.take j) = ((l.take j).map recS).filter (fun x => !isSoa x) := rfl
  rw [← e, List.length_map, List.length_take] at this
  omega
theorem auth_len (l : List SeedV) (j : Nat) : (authS (l.take j)).length ≤ j := by
  have := filter_two isSoa ((l.take j).map recS)
  have e : authS (l.take j) = ((l.take j).map recS).filter isSoa := rfl
  rw [← e, List.length_map, List.length_take] at this
  omega
theorem take_end {l : List SeedV} {j : Nat} (h : j = 32 ∨ (j ≤ 32 ∧ l.length ≤ j)) : l.take j = l.take 32 := by
  rcases h with rfl | ⟨h1, h2⟩
  · rfl
  · rw [List.take_of_length_le h2, List.take_of_length_le (by omega)]
theorem message_any (id f : Int) (q : SeedV) (A : Option Addr) (m c : Nat) (l : List SeedV) (w0 : World) (hq : q.Ok) (hL : Sl SeedV.cells 20 w0 A m l) (hO : ∀ s ∈ l, s.Ok) (_hm : m ≤ maxLen) :
    Calls Tryd.prog 28 #[.int .i64 id, .int .i64 f, .agg q.cells.toArray, .slice A m c] w0 fun e w' => Chg (fun _ => False) w0 w' ∧ ∃ v, e = .returned v ∧ MVF w0.heap.size w' v (msgS id f q l) := by
  have hlm := hL.1
  have hq16 := hq.a
  have hC := Chg.refl (fun _ => False) w0
  have hmx : maxLen = 9223372036854775807 := rfl
  refine calls_cw (args := [.int .i64 id, .int .i64 f, .agg q.cells.toArray, .slice A m c]) Tryd.func28 rfl rfl ?_
  show CW _ _ _ 66 [(0, .int .i64 id), (1, .int .i64 f), (2, .agg q.cells.toArray), (3, .slice A m c)] w0
  refine CW.rseq ?_
  refine WL.eff rfl (OP.box (by decide) rfl ?_)
  intro w1 hc_w1 hs_w1 hB6
  obtain ⟨b6, he_b6⟩ : ∃ b, b = w0.heap.size := ⟨_, rfl⟩
  rw [← he_b6] at hB6 ⊢
  have hB6 : BSd w1 b6 _ := hB6
  have hC := hC.trans hc_w1
  have hz_w1 := hc_w1.size
  refine WL.eff rfl (OP.allocM (by decide) ?_)
  intro w2 hc_w2 hs_w2 hB8
  obtain ⟨b8, he_b8⟩ : ∃ b, b = w1.heap.size := ⟨_, rfl⟩
  rw [← he_b8] at hB8 ⊢
  have hB6 := hc_w2.at hB6 (fun e => e)
  have hC := hC.trans hc_w2
  have hz_w2 := hc_w2.size
  refine WL.next ?_
  refine CW.cut (fun le wr => ∃ b9 base, Chg (fun _ => False) w0 wr ∧ base = wr.heap.size ∧ w0.heap.size ≤ b8 ∧ w0.heap.size ≤ b9 ∧ b8 < base ∧ b9 < base ∧ b8 ≠ b9 ∧ le = [(3, .slice A m c), (8, .pointer (some ⟨b8, 0, none⟩)), (9, .pointer (some ⟨b9, 0, none⟩))] ∧ BM wr b8 msg0 (.slice none 0 0) (.slice none 0 0) ∧ BM wr b9 (msgH id f q) (.slice none 0 0) (.slice none 0 0)) ?_ ?_
  ·
    have hB6_d := hB6
    have hB8_d := hB8
    refine CW.draw (fun w => w.heap[b6]? = w2.heap[b6]? ∧ w.heap[b8]? = w2.heap[b8]?) (by kernel_rfl) ?_
    have hc_w3 : Chg (fun _ => False) w2 w2.drew := Chg.drew _ _
    obtain ⟨w3, he_w3⟩ : ∃ w, w = w2.drew := ⟨_, rfl⟩
    rw [← he_w3] at hc_w3 ⊢
    have hB6 := hc_w3.at hB6 (fun e => e)
    have hB8 := hc_w3.at hB8 (fun e => e)
    have hC := hC.trans hc_w3
    have hz_w3 := hc_w3.size
    refine AH.take 0 rfl (by kernel_rfl) (by kernel_rfl) (by kernel_rfl) (fun _ _ _ _ h => h) (⟨hB6.trans hB6_d.symm, hB8.trans hB8_d.symm⟩) (by decide) (fun w hS => R.move rfl) ?_
    refine AH.take 1 rfl (by kernel_rfl) (by kernel_rfl) (by kernel_rfl) (fun _ _ _ _ h => h) (⟨hB6.trans hB6_d.symm, hB8.trans hB8_d.symm⟩) (by decide) (fun w hS => R.mask 16 rfl rfl (by decide) rfl rfl) ?_
    refine AH.take 2 rfl (by kernel_rfl) (by kernel_rfl) (by kernel_rfl) (fun _ _ _ _ h => h) (⟨hB6.trans hB6_d.symm, hB8.trans hB8_d.symm⟩) (by decide) (fun w hS => R.move rfl) ?_
    refine AH.take 3 rfl (by kernel_rfl) (by kernel_rfl) (by kernel_rfl) (fun _ _ _ _ h => h) (⟨hB6.trans hB6_d.symm, hB8.trans hB8_d.symm⟩) (by decide) (fun w hS => R.mask 1 rfl rfl (by decide) rfl rfl) ?_
    refine AH.take 4 rfl (by kernel_rfl) (by kernel_rfl) (by kernel_rfl) (fun _ _ _ _ h => h) (⟨hB6.trans hB6_d.symm, hB8.trans hB8_d.symm⟩) (by decide) (fun w hS => R.gtrD rfl rfl) ?_
    refine AH.take 5 rfl (by kernel_rfl) (by kernel_rfl) (by kernel_rfl) (fun _ _ _ _ h => h) (⟨hB6.trans hB6_d.symm, hB8.trans hB8_d.symm⟩) (by decide) (fun w hS => R.move rfl) ?_
    refine AH.take 6 rfl (by kernel_rfl) (by kernel_rfl) (by kernel_rfl) (fun _ _ _ _ h => h) (⟨hB6.trans hB6_d.symm, hB8.trans hB8_d.symm⟩) (by decide) (fun w hS => R.bit 1 rfl rfl (by decide) rfl) ?_
    refine AH.take 7 rfl (by kernel_rfl) (by kernel_rfl) (by kernel_rfl) (fun _ _ _ _ h => h) (⟨hB6.trans hB6_d.symm, hB8.trans hB8_d.symm⟩) (by decide) (fun w hS => R.gtrD rfl rfl) ?_
    refine AH.take 8 rfl (by kernel_rfl) (by kernel_rfl) (by kernel_rfl) (fun _ _ _ _ h => h) (⟨hB6.trans hB6_d.symm, hB8.trans hB8_d.symm⟩) (by decide) (fun w hS => R.move rfl) ?_
    refine AH.take 9 rfl (by kernel_rfl) (by kernel_rfl) (by kernel_rfl) (fun _ _ _ _ h => h) (⟨hB6.trans hB6_d.symm, hB8.trans hB8_d.symm⟩) (by decide) (fun w hS => R.bit 2 rfl rfl (by decide) rfl) ?_
    refine AH.take 10 rfl (by kernel_rfl) (by kernel_rfl) (by kernel_rfl) (fun _ _ _ _ h => h) (⟨hB6.trans hB6_d.symm, hB8.trans hB8_d.symm⟩) (by decide) (fun w hS => R.gtrD rfl rfl) ?_
    refine AH.take 12 rfl (by kernel_rfl) (by kernel_rfl) (by kernel_rfl) (fun _ _ _ _ h => h) (⟨hB6.trans hB6_d.symm, hB8.trans hB8_d.symm⟩) (by decide) (fun w hS => R.move rfl) ?_
    refine AH.take 13 rfl (by kernel_rfl) (by kernel_rfl) (by kernel_rfl) (fun _ _ _ _ h => h) (⟨hB6.trans hB6_d.symm, hB8.trans hB8_d.symm⟩) (by decide) (fun w hS => R.shr rfl rfl (by omega)) ?_
    refine AH.take 14 rfl (by kernel_rfl) (by kernel_rfl) (by kernel_rfl) (fun _ _ _ _ h => h) (⟨hB6.trans hB6_d.symm, hB8.trans hB8_d.symm⟩) (by decide) (fun w hS => R.mask 2 rfl rfl (by decide) rfl rfl) ?_
    refine AH.take 17 rfl (by kernel_rfl) (by kernel_rfl) (by kernel_rfl) (fun _ _ _ _ h => h) (⟨hB6.trans hB6_d.symm, hB8.trans hB8_d.symm⟩) (by decide) (fun w hS => FA50_0 rfl) ?_
    refine AH.take 18 rfl (by kernel_rfl) (by kernel_rfl) (by kernel_rfl) (fun _ _ _ _ h => h) (⟨hB6.trans hB6_d.symm, hB8.trans hB8_d.symm⟩) (by decide) (fun w hS => R.load Tryd.underlying3 rfl rfl (cell_at (hS.1.trans hB6_d) rfl)) ?_
    refine AH.take 20 rfl (by kernel_rfl) (by kernel_rfl) (by kernel_rfl) (fun _ _ _ _ h => h) (⟨hB6.trans hB6_d.symm, hB8.trans hB8_d.symm⟩) (by decide) (fun w hS => R.loadSd (by assumption) rfl (hS.1.trans hB6_d)) ?_
    refine AH.three 11 19 25 (by kernel_rfl) rfl rfl rfl rfl rfl rfl ?_ ?_ ?_
    · skip
      refine (OP.buildSlice (parts := [(0, _), (1, _), (2, _), (3, _)]) (vals := [(0, _), (1, _), (2, _), (3, _)]) (cells := (codesA.map (Value.int .i64)).toArray) (ty := 3) (by decide) rfl slice_codes ?_)
      intro w4 hc_w4 hs_w4 hN
      obtain ⟨bN, he_bN⟩ : ∃ b, b = w3.heap.size := ⟨_, rfl⟩
      rw [← he_bN] at hN ⊢
      have hB6 := hc_w4.at hB6 (fun e => e)
      have hB8 := hc_w4.at hB8 (fun e => e)
      have hC := hC.trans hc_w4
      have hz_w4 := hc_w4.size
      refine ⟨⟨hB6.trans hB6_d.symm, hB8.trans hB8_d.symm⟩, ?_⟩
      refine AH.take 15 rfl (by kernel_rfl) (by kernel_rfl) (by kernel_rfl) (fun _ _ _ _ h => h) (⟨hB6.trans hB6_d.symm, hB8.trans hB8_d.symm⟩) (by decide) (fun w hS => R.indexAddr1 (i := (f / 2 ^ (3 : Int).toNat % 4).toNat) Tryd.underlying65 sz3 rfl rfl (by omega) (by omega)) ?_
      refine AH.three 16 19 25 (by kernel_rfl) rfl rfl rfl rfl rfl rfl ?_ ?_ ?_
      · skip
        refine (OP.val (by decide) (R.load Tryd.underlying3 rfl rfl (by rw [Nat.zero_add, Nat.mul_one]; exact cell_at hN (by rw [List.getElem?_toArray, List.getElem?_map, codeN_at f]; rfl))) ?_)
        refine ⟨⟨hB6.trans hB6_d.symm, hB8.trans hB8_d.symm⟩, ?_⟩
        refine AH.either 19 25 (by kernel_rfl) rfl rfl rfl rfl ?_ ?_
        · skip
          refine (OP.call (by decide) Tryd.func33 (by kernel_rfl) (by kernel_rfl) rfl (name_any _ _) ?_)
          rintro ed w5 ⟨rfl, hc_w5⟩
          refine ⟨_, rfl, ?_⟩
          have hB6 := hc_w5.at hB6 (fun e => e)
          have hB8 := hc_w5.at hB8 (fun e => e)
          have hN := hc_w5.at hN (fun e => e)
          have hC := hC.trans hc_w5
          have hz_w5 := hc_w5.size
          refine ⟨⟨hB6.trans hB6_d.symm, hB8.trans hB8_d.symm⟩, ?_⟩
          refine AH.either 21 25 (by kernel_rfl) rfl rfl rfl rfl ?_ ?_
          · skip
            refine (OP.call (by decide) Tryd.func48 (by kernel_rfl) (by kernel_rfl) rfl (record_any _ _ hq) ?_)
            rintro ed w6 ⟨rfl, hc_w6⟩
            refine ⟨_, rfl, ?_⟩
            have hB6 := hc_w6.at hB6 (fun e => e)
            have hB8 := hc_w6.at hB8 (fun e => e)
            have hN := hc_w6.at hN (fun e => e)
            have hC := hC.trans hc_w6
            have hz_w6 := hc_w6.size
            refine ⟨⟨hB6.trans hB6_d.symm, hB8.trans hB8_d.symm⟩, ?_⟩
            refine AH.take 22 rfl (by kernel_rfl) (by kernel_rfl) (by kernel_rfl) (fun _ _ _ _ h => h) (⟨hB6.trans hB6_d.symm, hB8.trans hB8_d.symm⟩) (by decide) (fun w hS => R.field1 Tryd.underlying57 rfl Tryd.underlying3 rfl rfl (recS q).at1) ?_
            refine AH.take 23 rfl (by kernel_rfl) (by kernel_rfl) (by kernel_rfl) (fun _ _ _ _ h => h) (⟨hB6.trans hB6_d.symm, hB8.trans hB8_d.symm⟩) (by decide) (fun w hS => R.build (parts := [(0, _), (1, _)]) (vals := [(0, _), (1, _)]) rfl (fun w => build25_2 _ _ w)) ?_
            refine AH.take 24 rfl (by kernel_rfl) (by kernel_rfl) (by kernel_rfl) (fun _ _ _ _ h => h) (⟨hB6.trans hB6_d.symm, hB8.trans hB8_d.symm⟩) (by decide) (fun w hS => R.build (parts := [(0, _), (1, _), (2, _), (3, _), (4, _), (5, _)]) (vals := [(0, _), (1, _), (2, _), (3, _), (4, _), (5, _)]) rfl (fun w => build33_6 _ _ _ _ _ _ _ w)) ?_
            refine AH.eff 25 (by kernel_rfl) rfl rfl (OP.allocM (by decide) ?_)
            intro w7 hc_w7 hs_w7 hB9
            obtain ⟨b9, he_b9⟩ : ∃ b, b = w6.heap.size := ⟨_, rfl⟩
            rw [← he_b9] at hB9 ⊢
            have hB6 := hc_w7.at hB6 (fun e => e)
            have hB8 := hc_w7.at hB8 (fun e => e)
            have hN := hc_w7.at hN (fun e => e)
            have hC := hC.trans hc_w7
            have hz_w7 := hc_w7.size
            refine ⟨⟨hB6.trans hB6_d.symm, hB8.trans hB8_d.symm⟩, ?_⟩
            refine AH.eff 26 (by kernel_rfl) rfl rfl (OP.storeM rfl rfl hB9 ?_)
            intro w8 hc_w8 hs_w8 hB9
            have hB6 := hc_w8.at hB6 (fun e => by omega)
            have hB8 := hc_w8.at hB8 (fun e => by omega)
            have hN := hc_w8.at hN (fun e => by omega)
            have hC := hC.thenB hc_w8 (by omega)
            refine ⟨⟨hB6.trans hB6_d.symm, hB8.trans hB8_d.symm⟩, ?_⟩
            refine AH.done (by kernel_rfl) ?_
            exact EW.cutK [3, 8, 9] ⟨b9, _, hC, rfl, by omega, by omega, by omega, by omega, by omega, rfl, hB8, hB9⟩
          · skip
            refine (OP.allocM (by decide) ?_)
            intro w9 hc_w9 hs_w9 hB9
            obtain ⟨b9, he_b9⟩ : ∃ b, b = w5.heap.size := ⟨_, rfl⟩
            rw [← he_b9] at hB9 ⊢
            have hB6 := hc_w9.at hB6 (fun e => e)
            have hB8 := hc_w9.at hB8 (fun e => e)
            have hN := hc_w9.at hN (fun e => e)
            have hC := hC.trans hc_w9
            have hz_w9 := hc_w9.size
            refine ⟨⟨hB6.trans hB6_d.symm, hB8.trans hB8_d.symm⟩, ?_⟩
            refine AH.eff 21 (by kernel_rfl) rfl rfl (OP.call (by decide) Tryd.func48 (by kernel_rfl) (by kernel_rfl) rfl (record_any _ _ hq) ?_)
            rintro ed w10 ⟨rfl, hc_w10⟩
            refine ⟨_, rfl, ?_⟩
            have hB6 := hc_w10.at hB6 (fun e => e)
            have hB8 := hc_w10.at hB8 (fun e => e)
            have hN := hc_w10.at hN (fun e => e)
            have hB9 := hc_w10.at hB9 (fun e => e)
            have hC := hC.trans hc_w10
            have hz_w10 := hc_w10.size
            refine ⟨⟨hB6.trans hB6_d.symm, hB8.trans hB8_d.symm⟩, ?_⟩
            refine AH.take 22 rfl (by kernel_rfl) (by kernel_rfl) (by kernel_rfl) (fun _ _ _ _ h => h) (⟨hB6.trans hB6_d.symm, hB8.trans hB8_d.symm⟩) (by decide) (fun w hS => R.field1 Tryd.underlying57 rfl Tryd.underlying3 rfl rfl (recS q).at1) ?_
            refine AH.take 23 rfl (by kernel_rfl) (by kernel_rfl) (by kernel_rfl) (fun _ _ _ _ h => h) (⟨hB6.trans hB6_d.symm, hB8.trans hB8_d.symm⟩) (by decide) (fun w hS => R.build (parts := [(0, _), (1, _)]) (vals := [(0, _), (1, _)]) rfl (fun w => build25_2 _ _ w)) ?_
            refine AH.take 24 rfl (by kernel_rfl) (by kernel_rfl) (by kernel_rfl) (fun _ _ _ _ h => h) (⟨hB6.trans hB6_d.symm, hB8.trans hB8_d.symm⟩) (by decide) (fun w hS => R.build (parts := [(0, _), (1, _), (2, _), (3, _), (4, _), (5, _)]) (vals := [(0, _), (1, _), (2, _), (3, _), (4, _), (5, _)]) rfl (fun w => build33_6 _ _ _ _ _ _ _ w)) ?_
            refine AH.eff 26 (by kernel_rfl) rfl rfl (OP.storeM rfl rfl hB9 ?_)
            intro w11 hc_w11 hs_w11 hB9
            have hB6 := hc_w11.at hB6 (fun e => by omega)
            have hB8 := hc_w11.at hB8 (fun e => by omega)
            have hN := hc_w11.at hN (fun e => by omega)
            have hC := hC.thenB hc_w11 (by omega)
            refine ⟨⟨hB6.trans hB6_d.symm, hB8.trans hB8_d.symm⟩, ?_⟩
            refine AH.done (by kernel_rfl) ?_
            exact EW.cutK [3, 8, 9] ⟨b9, _, hC, rfl, by omega, by omega, by omega, by omega, by omega, rfl, hB8, hB9⟩
        · skip
          refine (OP.allocM (by decide) ?_)
          intro w12 hc_w12 hs_w12 hB9
          obtain ⟨b9, he_b9⟩ : ∃ b, b = w4.heap.size := ⟨_, rfl⟩
          rw [← he_b9] at hB9 ⊢
          have hB6 := hc_w12.at hB6 (fun e => e)
          have hB8 := hc_w12.at hB8 (fun e => e)
          have hN := hc_w12.at hN (fun e => e)
          have hC := hC.trans hc_w12
          have hz_w12 := hc_w12.size
          refine ⟨⟨hB6.trans hB6_d.symm, hB8.trans hB8_d.symm⟩, ?_⟩
          refine AH.eff 19 (by kernel_rfl) rfl rfl (OP.call (by decide) Tryd.func33 (by kernel_rfl) (by kernel_rfl) rfl (name_any _ _) ?_)
          rintro ed w13 ⟨rfl, hc_w13⟩
          refine ⟨_, rfl, ?_⟩
          have hB6 := hc_w13.at hB6 (fun e => e)
          have hB8 := hc_w13.at hB8 (fun e => e)
          have hN := hc_w13.at hN (fun e => e)
          have hB9 := hc_w13.at hB9 (fun e => e)
          have hC := hC.trans hc_w13
          have hz_w13 := hc_w13.size
          refine ⟨⟨hB6.trans hB6_d.symm, hB8.trans hB8_d.symm⟩, ?_⟩
          refine AH.eff 21 (by kernel_rfl) rfl rfl (OP.call (by decide) Tryd.func48 (by kernel_rfl) (by kernel_rfl) rfl (record_any _ _ hq) ?_)
          rintro ed w14 ⟨rfl, hc_w14⟩
          refine ⟨_, rfl, ?_⟩
          have hB6 := hc_w14.at hB6 (fun e => e)
          have hB8 := hc_w14.at hB8 (fun e => e)
          have hN := hc_w14.at hN (fun e => e)
          have hB9 := hc_w14.at hB9 (fun e => e)
          have hC := hC.trans hc_w14
          have hz_w14 := hc_w14.size
          refine ⟨⟨hB6.trans hB6_d.symm, hB8.trans hB8_d.symm⟩, ?_⟩
          refine AH.take 22 rfl (by kernel_rfl) (by kernel_rfl) (by kernel_rfl) (fun _ _ _ _ h => h) (⟨hB6.trans hB6_d.symm, hB8.trans hB8_d.symm⟩) (by decide) (fun w hS => R.field1 Tryd.underlying57 rfl Tryd.underlying3 rfl rfl (recS q).at1) ?_
          refine AH.take 23 rfl (by kernel_rfl) (by kernel_rfl) (by kernel_rfl) (fun _ _ _ _ h => h) (⟨hB6.trans hB6_d.symm, hB8.trans hB8_d.symm⟩) (by decide) (fun w hS => R.build (parts := [(0, _), (1, _)]) (vals := [(0, _), (1, _)]) rfl (fun w => build25_2 _ _ w)) ?_
          refine AH.take 24 rfl (by kernel_rfl) (by kernel_rfl) (by kernel_rfl) (fun _ _ _ _ h => h) (⟨hB6.trans hB6_d.symm, hB8.trans hB8_d.symm⟩) (by decide) (fun w hS => R.build (parts := [(0, _), (1, _), (2, _), (3, _), (4, _), (5, _)]) (vals := [(0, _), (1, _), (2, _), (3, _), (4, _), (5, _)]) rfl (fun w => build33_6 _ _ _ _ _ _ _ w)) ?_
          refine AH.eff 26 (by kernel_rfl) rfl rfl (OP.storeM rfl rfl hB9 ?_)
          intro w15 hc_w15 hs_w15 hB9
          have hB6 := hc_w15.at hB6 (fun e => by omega)
          have hB8 := hc_w15.at hB8 (fun e => by omega)
          have hN := hc_w15.at hN (fun e => by omega)
          have hC := hC.thenB hc_w15 (by omega)
          refine ⟨⟨hB6.trans hB6_d.symm, hB8.trans hB8_d.symm⟩, ?_⟩
          refine AH.done (by kernel_rfl) ?_
          exact EW.cutK [3, 8, 9] ⟨b9, _, hC, rfl, by omega, by omega, by omega, by omega, by omega, rfl, hB8, hB9⟩
      · skip
        refine (OP.call (by decide) Tryd.func33 (by kernel_rfl) (by kernel_rfl) rfl (name_any _ _) ?_)
        rintro ed w16 ⟨rfl, hc_w16⟩
        refine ⟨_, rfl, ?_⟩
        have hB6 := hc_w16.at hB6 (fun e => e)
        have hB8 := hc_w16.at hB8 (fun e => e)
        have hN := hc_w16.at hN (fun e => e)
        have hC := hC.trans hc_w16
        have hz_w16 := hc_w16.size
        refine ⟨⟨hB6.trans hB6_d.symm, hB8.trans hB8_d.symm⟩, ?_⟩
        refine AH.three 16 21 25 (by kernel_rfl) rfl rfl rfl rfl rfl rfl ?_ ?_ ?_
        · skip
          refine (OP.val (by decide) (R.load Tryd.underlying3 rfl rfl (by rw [Nat.zero_add, Nat.mul_one]; exact cell_at hN (by rw [List.getElem?_toArray, List.getElem?_map, codeN_at f]; rfl))) ?_)
          refine ⟨⟨hB6.trans hB6_d.symm, hB8.trans hB8_d.symm⟩, ?_⟩
          refine AH.either 21 25 (by kernel_rfl) rfl rfl rfl rfl ?_ ?_
          · skip
            refine (OP.call (by decide) Tryd.func48 (by kernel_rfl) (by kernel_rfl) rfl (record_any _ _ hq) ?_)
            rintro ed w17 ⟨rfl, hc_w17⟩
            refine ⟨_, rfl, ?_⟩
            have hB6 := hc_w17.at hB6 (fun e => e)
            have hB8 := hc_w17.at hB8 (fun e => e)
            have hN := hc_w17.at hN (fun e => e)
            have hC := hC.trans hc_w17
            have hz_w17 := hc_w17.size
            refine ⟨⟨hB6.trans hB6_d.symm, hB8.trans hB8_d.symm⟩, ?_⟩
            refine AH.take 22 rfl (by kernel_rfl) (by kernel_rfl) (by kernel_rfl) (fun _ _ _ _ h => h) (⟨hB6.trans hB6_d.symm, hB8.trans hB8_d.symm⟩) (by decide) (fun w hS => R.field1 Tryd.underlying57 rfl Tryd.underlying3 rfl rfl (recS q).at1) ?_
            refine AH.take 23 rfl (by kernel_rfl) (by kernel_rfl) (by kernel_rfl) (fun _ _ _ _ h => h) (⟨hB6.trans hB6_d.symm, hB8.trans hB8_d.symm⟩) (by decide) (fun w hS => R.build (parts := [(0, _), (1, _)]) (vals := [(0, _), (1, _)]) rfl (fun w => build25_2 _ _ w)) ?_
            refine AH.take 24 rfl (by kernel_rfl) (by kernel_rfl) (by kernel_rfl) (fun _ _ _ _ h => h) (⟨hB6.trans hB6_d.symm, hB8.trans hB8_d.symm⟩) (by decide) (fun w hS => R.build (parts := [(0, _), (1, _), (2, _), (3, _), (4, _), (5, _)]) (vals := [(0, _), (1, _), (2, _), (3, _), (4, _), (5, _)]) rfl (fun w => build33_6 _ _ _ _ _ _ _ w)) ?_
            refine AH.eff 25 (by kernel_rfl) rfl rfl (OP.allocM (by decide) ?_)
            intro w18 hc_w18 hs_w18 hB9
            obtain ⟨b9, he_b9⟩ : ∃ b, b = w17.heap.size := ⟨_, rfl⟩
            rw [← he_b9] at hB9 ⊢
            have hB6 := hc_w18.at hB6 (fun e => e)
            have hB8 := hc_w18.at hB8 (fun e => e)
            have hN := hc_w18.at hN (fun e => e)
            have hC := hC.trans hc_w18
            have hz_w18 := hc_w18.size
            refine ⟨⟨hB6.trans hB6_d.symm, hB8.trans hB8_d.symm⟩, ?_⟩
            refine AH.eff 26 (by kernel_rfl) rfl rfl (OP.storeM rfl rfl hB9 ?_)
            intro w19 hc_w19 hs_w19 hB9
            have hB6 := hc_w19.at hB6 (fun e => by omega)
            have hB8 := hc_w19.at hB8 (fun e => by omega)
            have hN := hc_w19.at hN (fun e => by omega)
            have hC := hC.thenB hc_w19 (by omega)
            refine ⟨⟨hB6.trans hB6_d.symm, hB8.trans hB8_d.symm⟩, ?_⟩
            refine AH.done (by kernel_rfl) ?_
            exact EW.cutK [3, 8, 9] ⟨b9, _, hC, rfl, by omega, by omega, by omega, by omega, by omega, rfl, hB8, hB9⟩
          · skip
            refine (OP.allocM (by decide) ?_)
            intro w20 hc_w20 hs_w20 hB9
            obtain ⟨b9, he_b9⟩ : ∃ b, b = w16.heap.size := ⟨_, rfl⟩
            rw [← he_b9] at hB9 ⊢
            have hB6 := hc_w20.at hB6 (fun e => e)
            have hB8 := hc_w20.at hB8 (fun e => e)
            have hN := hc_w20.at hN (fun e => e)
            have hC := hC.trans hc_w20
            have hz_w20 := hc_w20.size
            refine ⟨⟨hB6.trans hB6_d.symm, hB8.trans hB8_d.symm⟩, ?_⟩
            refine AH.eff 21 (by kernel_rfl) rfl rfl (OP.call (by decide) Tryd.func48 (by kernel_rfl) (by kernel_rfl) rfl (record_any _ _ hq) ?_)
            rintro ed w21 ⟨rfl, hc_w21⟩
            refine ⟨_, rfl, ?_⟩
            have hB6 := hc_w21.at hB6 (fun e => e)
            have hB8 := hc_w21.at hB8 (fun e => e)
            have hN := hc_w21.at hN (fun e => e)
            have hB9 := hc_w21.at hB9 (fun e => e)
            have hC := hC.trans hc_w21
            have hz_w21 := hc_w21.size
            refine ⟨⟨hB6.trans hB6_d.symm, hB8.trans hB8_d.symm⟩, ?_⟩
            refine AH.take 22 rfl (by kernel_rfl) (by kernel_rfl) (by kernel_rfl) (fun _ _ _ _ h => h) (⟨hB6.trans hB6_d.symm, hB8.trans hB8_d.symm⟩) (by decide) (fun w hS => R.field1 Tryd.underlying57 rfl Tryd.underlying3 rfl rfl (recS q).at1) ?_
            refine AH.take 23 rfl (by kernel_rfl) (by kernel_rfl) (by kernel_rfl) (fun _ _ _ _ h => h) (⟨hB6.trans hB6_d.symm, hB8.trans hB8_d.symm⟩) (by decide) (fun w hS => R.build (parts := [(0, _), (1, _)]) (vals := [(0, _), (1, _)]) rfl (fun w => build25_2 _ _ w)) ?_
            refine AH.take 24 rfl (by kernel_rfl) (by kernel_rfl) (by kernel_rfl) (fun _ _ _ _ h => h) (⟨hB6.trans hB6_d.symm, hB8.trans hB8_d.symm⟩) (by decide) (fun w hS => R.build (parts := [(0, _), (1, _), (2, _), (3, _), (4, _), (5, _)]) (vals := [(0, _), (1, _), (2, _), (3, _), (4, _), (5, _)]) rfl (fun w => build33_6 _ _ _ _ _ _ _ w)) ?_
            refine AH.eff 26 (by kernel_rfl) rfl rfl (OP.storeM rfl rfl hB9 ?_)
            intro w22 hc_w22 hs_w22 hB9
            have hB6 := hc_w22.at hB6 (fun e => by omega)
            have hB8 := hc_w22.at hB8 (fun e => by omega)
            have hN := hc_w22.at hN (fun e => by omega)
            have hC := hC.thenB hc_w22 (by omega)
            refine ⟨⟨hB6.trans hB6_d.symm, hB8.trans hB8_d.symm⟩, ?_⟩
            refine AH.done (by kernel_rfl) ?_
            exact EW.cutK [3, 8, 9] ⟨b9, _, hC, rfl, by omega, by omega, by omega, by omega, by omega, rfl, hB8, hB9⟩
        · skip
          refine (OP.call (by decide) Tryd.func48 (by kernel_rfl) (by kernel_rfl) rfl (record_any _ _ hq) ?_)
          rintro ed w23 ⟨rfl, hc_w23⟩
          refine ⟨_, rfl, ?_⟩
          have hB6 := hc_w23.at hB6 (fun e => e)
          have hB8 := hc_w23.at hB8 (fun e => e)
          have hN := hc_w23.at hN (fun e => e)
          have hC := hC.trans hc_w23
          have hz_w23 := hc_w23.size
          refine ⟨⟨hB6.trans hB6_d.symm, hB8.trans hB8_d.symm⟩, ?_⟩
          refine AH.take 22 rfl (by kernel_rfl) (by kernel_rfl) (by kernel_rfl) (fun _ _ _ _ h => h) (⟨hB6.trans hB6_d.symm, hB8.trans hB8_d.symm⟩) (by decide) (fun w hS => R.field1 Tryd.underlying57 rfl Tryd.underlying3 rfl rfl (recS q).at1) ?_
          refine AH.take 23 rfl (by kernel_rfl) (by kernel_rfl) (by kernel_rfl) (fun _ _ _ _ h => h) (⟨hB6.trans hB6_d.symm, hB8.trans hB8_d.symm⟩) (by decide) (fun w hS => R.build (parts := [(0, _), (1, _)]) (vals := [(0, _), (1, _)]) rfl (fun w => build25_2 _ _ w)) ?_
          refine AH.either 16 25 (by kernel_rfl) rfl rfl rfl rfl ?_ ?_
          · skip
            refine (OP.val (by decide) (R.load Tryd.underlying3 rfl rfl (by rw [Nat.zero_add, Nat.mul_one]; exact cell_at hN (by rw [List.getElem?_toArray, List.getElem?_map, codeN_at f]; rfl))) ?_)
            refine ⟨⟨hB6.trans hB6_d.symm, hB8.trans hB8_d.symm⟩, ?_⟩
            refine AH.take 24 rfl (by kernel_rfl) (by kernel_rfl) (by kernel_rfl) (fun _ _ _ _ h => h) (⟨hB6.trans hB6_d.symm, hB8.trans hB8_d.symm⟩) (by decide) (fun w hS => R.build (parts := [(0, _), (1, _), (2, _), (3, _), (4, _), (5, _)]) (vals := [(0, _), (1, _), (2, _), (3, _), (4, _), (5, _)]) rfl (fun w => build33_6 _ _ _ _ _ _ _ w)) ?_
            refine AH.eff 25 (by kernel_rfl) rfl rfl (OP.allocM (by decide) ?_)
            intro w24 hc_w24 hs_w24 hB9
            obtain ⟨b9, he_b9⟩ : ∃ b, b = w23.heap.size := ⟨_, rfl⟩
            rw [← he_b9] at hB9 ⊢
            have hB6 := hc_w24.at hB6 (fun e => e)
            have hB8 := hc_w24.at hB8 (fun e => e)
            have hN := hc_w24.at hN (fun e => e)
            have hC := hC.trans hc_w24
            have hz_w24 := hc_w24.size
            refine ⟨⟨hB6.trans hB6_d.symm, hB8.trans hB8_d.symm⟩, ?_⟩
            refine AH.eff 26 (by kernel_rfl) rfl rfl (OP.storeM rfl rfl hB9 ?_)
            intro w25 hc_w25 hs_w25 hB9
            have hB6 := hc_w25.at hB6 (fun e => by omega)
            have hB8 := hc_w25.at hB8 (fun e => by omega)
            have hN := hc_w25.at hN (fun e => by omega)
            have hC := hC.thenB hc_w25 (by omega)
            refine ⟨⟨hB6.trans hB6_d.symm, hB8.trans hB8_d.symm⟩, ?_⟩
            refine AH.done (by kernel_rfl) ?_
            exact EW.cutK [3, 8, 9] ⟨b9, _, hC, rfl, by omega, by omega, by omega, by omega, by omega, rfl, hB8, hB9⟩
          · skip
            refine (OP.allocM (by decide) ?_)
            intro w26 hc_w26 hs_w26 hB9
            obtain ⟨b9, he_b9⟩ : ∃ b, b = w23.heap.size := ⟨_, rfl⟩
            rw [← he_b9] at hB9 ⊢
            have hB6 := hc_w26.at hB6 (fun e => e)
            have hB8 := hc_w26.at hB8 (fun e => e)
            have hN := hc_w26.at hN (fun e => e)
            have hC := hC.trans hc_w26
            have hz_w26 := hc_w26.size
            refine ⟨⟨hB6.trans hB6_d.symm, hB8.trans hB8_d.symm⟩, ?_⟩
            refine AH.eff 16 (by kernel_rfl) rfl rfl (OP.val (by decide) (R.load Tryd.underlying3 rfl rfl (by rw [Nat.zero_add, Nat.mul_one]; exact cell_at hN (by rw [List.getElem?_toArray, List.getElem?_map, codeN_at f]; rfl))) ?_)
            refine ⟨⟨hB6.trans hB6_d.symm, hB8.trans hB8_d.symm⟩, ?_⟩
            refine AH.take 24 rfl (by kernel_rfl) (by kernel_rfl) (by kernel_rfl) (fun _ _ _ _ h => h) (⟨hB6.trans hB6_d.symm, hB8.trans hB8_d.symm⟩) (by decide) (fun w hS => R.build (parts := [(0, _), (1, _), (2, _), (3, _), (4, _), (5, _)]) (vals := [(0, _), (1, _), (2, _), (3, _), (4, _), (5, _)]) rfl (fun w => build33_6 _ _ _ _ _ _ _ w)) ?_
            refine AH.eff 26 (by kernel_rfl) rfl rfl (OP.storeM rfl rfl hB9 ?_)
            intro w27 hc_w27 hs_w27 hB9
            have hB6 := hc_w27.at hB6 (fun e => by omega)
            have hB8 := hc_w27.at hB8 (fun e => by omega)
            have hN := hc_w27.at hN (fun e => by omega)
            have hC := hC.thenB hc_w27 (by omega)
            refine ⟨⟨hB6.trans hB6_d.symm, hB8.trans hB8_d.symm⟩, ?_⟩
            refine AH.done (by kernel_rfl) ?_
            exact EW.cutK [3, 8, 9] ⟨b9, _, hC, rfl, by omega, by omega, by omega, by omega, by omega, rfl, hB8, hB9⟩
        · skip
          refine (OP.allocM (by decide) ?_)
          intro w28 hc_w28 hs_w28 hB9
          obtain ⟨b9, he_b9⟩ : ∃ b, b = w16.heap.size := ⟨_, rfl⟩
          rw [← he_b9] at hB9 ⊢
          have hB6 := hc_w28.at hB6 (fun e => e)
          have hB8 := hc_w28.at hB8 (fun e => e)
          have hN := hc_w28.at hN (fun e => e)
          have hC := hC.trans hc_w28
          have hz_w28 := hc_w28.size
          refine ⟨⟨hB6.trans hB6_d.symm, hB8.trans hB8_d.symm⟩, ?_⟩
          refine AH.either 16 21 (by kernel_rfl) rfl rfl rfl rfl ?_ ?_
          · skip
            refine (OP.val (by decide) (R.load Tryd.underlying3 rfl rfl (by rw [Nat.zero_add, Nat.mul_one]; exact cell_at hN (by rw [List.getElem?_toArray, List.getElem?_map, codeN_at f]; rfl))) ?_)
            refine ⟨⟨hB6.trans hB6_d.symm, hB8.trans hB8_d.symm⟩, ?_⟩
            refine AH.eff 21 (by kernel_rfl) rfl rfl (OP.call (by decide) Tryd.func48 (by kernel_rfl) (by kernel_rfl) rfl (record_any _ _ hq) ?_)
            rintro ed w29 ⟨rfl, hc_w29⟩
            refine ⟨_, rfl, ?_⟩
            have hB6 := hc_w29.at hB6 (fun e => e)
            have hB8 := hc_w29.at hB8 (fun e => e)
            have hN := hc_w29.at hN (fun e => e)
            have hB9 := hc_w29.at hB9 (fun e => e)
            have hC := hC.trans hc_w29
            have hz_w29 := hc_w29.size
            refine ⟨⟨hB6.trans hB6_d.symm, hB8.trans hB8_d.symm⟩, ?_⟩
            refine AH.take 22 rfl (by kernel_rfl) (by kernel_rfl) (by kernel_rfl) (fun _ _ _ _ h => h) (⟨hB6.trans hB6_d.symm, hB8.trans hB8_d.symm⟩) (by decide) (fun w hS => R.field1 Tryd.underlying57 rfl Tryd.underlying3 rfl rfl (recS q).at1) ?_
            refine AH.take 23 rfl (by kernel_rfl) (by kernel_rfl) (by kernel_rfl) (fun _ _ _ _ h => h) (⟨hB6.trans hB6_d.symm, hB8.trans hB8_d.symm⟩) (by decide) (fun w hS => R.build (parts := [(0, _), (1, _)]) (vals := [(0, _), (1, _)]) rfl (fun w => build25_2 _ _ w)) ?_
            refine AH.take 24 rfl (by kernel_rfl) (by kernel_rfl) (by kernel_rfl) (fun _ _ _ _ h => h) (⟨hB6.trans hB6_d.symm, hB8.trans hB8_d.symm⟩) (by decide) (fun w hS => R.build (parts := [(0, _), (1, _), (2, _), (3, _), (4, _), (5, _)]) (vals := [(0, _), (1, _), (2, _), (3, _), (4, _), (5, _)]) rfl (fun w => build33_6 _ _ _ _ _ _ _ w)) ?_
            refine AH.eff 26 (by kernel_rfl) rfl rfl (OP.storeM rfl rfl hB9 ?_)
            intro w30 hc_w30 hs_w30 hB9
            have hB6 := hc_w30.at hB6 (fun e => by omega)
            have hB8 := hc_w30.at hB8 (fun e => by omega)
            have hN := hc_w30.at hN (fun e => by omega)
            have hC := hC.thenB hc_w30 (by omega)
            refine ⟨⟨hB6.trans hB6_d.symm, hB8.trans hB8_d.symm⟩, ?_⟩
            refine AH.done (by kernel_rfl) ?_
            exact EW.cutK [3, 8, 9] ⟨b9, _, hC, rfl, by omega, by omega, by omega, by omega, by omega, rfl, hB8, hB9⟩
          · skip
            refine (OP.call (by decide) Tryd.func48 (by kernel_rfl) (by kernel_rfl) rfl (record_any _ _ hq) ?_)
            rintro ed w31 ⟨rfl, hc_w31⟩
            refine ⟨_, rfl, ?_⟩
            have hB6 := hc_w31.at hB6 (fun e => e)
            have hB8 := hc_w31.at hB8 (fun e => e)
            have hN := hc_w31.at hN (fun e => e)
            have hB9 := hc_w31.at hB9 (fun e => e)
            have hC := hC.trans hc_w31
            have hz_w31 := hc_w31.size
            refine ⟨⟨hB6.trans hB6_d.symm, hB8.trans hB8_d.symm⟩, ?_⟩
            refine AH.take 22 rfl (by kernel_rfl) (by kernel_rfl) (by kernel_rfl) (fun _ _ _ _ h => h) (⟨hB6.trans hB6_d.symm, hB8.trans hB8_d.symm⟩) (by decide) (fun w hS => R.field1 Tryd.underlying57 rfl Tryd.underlying3 rfl rfl (recS q).at1) ?_
            refine AH.take 23 rfl (by kernel_rfl) (by kernel_rfl) (by kernel_rfl) (fun _ _ _ _ h => h) (⟨hB6.trans hB6_d.symm, hB8.trans hB8_d.symm⟩) (by decide) (fun w hS => R.build (parts := [(0, _), (1, _)]) (vals := [(0, _), (1, _)]) rfl (fun w => build25_2 _ _ w)) ?_
            refine AH.eff 16 (by kernel_rfl) rfl rfl (OP.val (by decide) (R.load Tryd.underlying3 rfl rfl (by rw [Nat.zero_add, Nat.mul_one]; exact cell_at hN (by rw [List.getElem?_toArray, List.getElem?_map, codeN_at f]; rfl))) ?_)
            refine ⟨⟨hB6.trans hB6_d.symm, hB8.trans hB8_d.symm⟩, ?_⟩
            refine AH.take 24 rfl (by kernel_rfl) (by kernel_rfl) (by kernel_rfl) (fun _ _ _ _ h => h) (⟨hB6.trans hB6_d.symm, hB8.trans hB8_d.symm⟩) (by decide) (fun w hS => R.build (parts := [(0, _), (1, _), (2, _), (3, _), (4, _), (5, _)]) (vals := [(0, _), (1, _), (2, _), (3, _), (4, _), (5, _)]) rfl (fun w => build33_6 _ _ _ _ _ _ _ w)) ?_
            refine AH.eff 26 (by kernel_rfl) rfl rfl (OP.storeM rfl rfl hB9 ?_)
            intro w32 hc_w32 hs_w32 hB9
            have hB6 := hc_w32.at hB6 (fun e => by omega)
            have hB8 := hc_w32.at hB8 (fun e => by omega)
            have hN := hc_w32.at hN (fun e => by omega)
            have hC := hC.thenB hc_w32 (by omega)
            refine ⟨⟨hB6.trans hB6_d.symm, hB8.trans hB8_d.symm⟩, ?_⟩
            refine AH.done (by kernel_rfl) ?_
            exact EW.cutK [3, 8, 9] ⟨b9, _, hC, rfl, by omega, by omega, by omega, by omega, by omega, rfl, hB8, hB9⟩
      · skip
        refine (OP.allocM (by decide) ?_)
        intro w33 hc_w33 hs_w33 hB9
        obtain ⟨b9, he_b9⟩ : ∃ b, b = w4.heap.size := ⟨_, rfl⟩
        rw [← he_b9] at hB9 ⊢
        have hB6 := hc_w33.at hB6 (fun e => e)
        have hB8 := hc_w33.at hB8 (fun e => e)
        have hN := hc_w33.at hN (fun e => e)
        have hC := hC.trans hc_w33
        have hz_w33 := hc_w33.size
        refine ⟨⟨hB6.trans hB6_d.symm, hB8.trans hB8_d.symm⟩, ?_⟩
        refine AH.either 16 19 (by kernel_rfl) rfl rfl rfl rfl ?_ ?_
        · skip
          refine (OP.val (by decide) (R.load Tryd.underlying3 rfl rfl (by rw [Nat.zero_add, Nat.mul_one]; exact cell_at hN (by rw [List.getElem?_toArray, List.getElem?_map, codeN_at f]; rfl))) ?_)
          refine ⟨⟨hB6.trans hB6_d.symm, hB8.trans hB8_d.symm⟩, ?_⟩
          refine AH.eff 19 (by kernel_rfl) rfl rfl (OP.call (by decide) Tryd.func33 (by kernel_rfl) (by kernel_rfl) rfl (name_any _ _) ?_)
          rintro ed w34 ⟨rfl, hc_w34⟩
          refine ⟨_, rfl, ?_⟩
          have hB6 := hc_w34.at hB6 (fun e => e)
          have hB8 := hc_w34.at hB8 (fun e => e)
          have hN := hc_w34.at hN (fun e => e)
          have hB9 := hc_w34.at hB9 (fun e => e)
          have hC := hC.trans hc_w34
          have hz_w34 := hc_w34.size
          refine ⟨⟨hB6.trans hB6_d.symm, hB8.trans hB8_d.symm⟩, ?_⟩
          refine AH.eff 21 (by kernel_rfl) rfl rfl (OP.call (by decide) Tryd.func48 (by kernel_rfl) (by kernel_rfl) rfl (record_any _ _ hq) ?_)
          rintro ed w35 ⟨rfl, hc_w35⟩
          refine ⟨_, rfl, ?_⟩
          have hB6 := hc_w35.at hB6 (fun e => e)
          have hB8 := hc_w35.at hB8 (fun e => e)
          have hN := hc_w35.at hN (fun e => e)
          have hB9 := hc_w35.at hB9 (fun e => e)
          have hC := hC.trans hc_w35
          have hz_w35 := hc_w35.size
          refine ⟨⟨hB6.trans hB6_d.symm, hB8.trans hB8_d.symm⟩, ?_⟩
          refine AH.take 22 rfl (by kernel_rfl) (by kernel_rfl) (by kernel_rfl) (fun _ _ _ _ h => h) (⟨hB6.trans hB6_d.symm, hB8.trans hB8_d.symm⟩) (by decide) (fun w hS => R.field1 Tryd.underlying57 rfl Tryd.underlying3 rfl rfl (recS q).at1) ?_
          refine AH.take 23 rfl (by kernel_rfl) (by kernel_rfl) (by kernel_rfl) (fun _ _ _ _ h => h) (⟨hB6.trans hB6_d.symm, hB8.trans hB8_d.symm⟩) (by decide) (fun w hS => R.build (parts := [(0, _), (1, _)]) (vals := [(0, _), (1, _)]) rfl (fun w => build25_2 _ _ w)) ?_
          refine AH.take 24 rfl (by kernel_rfl) (by kernel_rfl) (by kernel_rfl) (fun _ _ _ _ h => h) (⟨hB6.trans hB6_d.symm, hB8.trans hB8_d.symm⟩) (by decide) (fun w hS => R.build (parts := [(0, _), (1, _), (2, _), (3, _), (4, _), (5, _)]) (vals := [(0, _), (1, _), (2, _), (3, _), (4, _), (5, _)]) rfl (fun w => build33_6 _ _ _ _ _ _ _ w)) ?_
          refine AH.eff 26 (by kernel_rfl) rfl rfl (OP.storeM rfl rfl hB9 ?_)
          intro w36 hc_w36 hs_w36 hB9
          have hB6 := hc_w36.at hB6 (fun e => by omega)
          have hB8 := hc_w36.at hB8 (fun e => by omega)
          have hN := hc_w36.at hN (fun e => by omega)
          have hC := hC.thenB hc_w36 (by omega)
          refine ⟨⟨hB6.trans hB6_d.symm, hB8.trans hB8_d.symm⟩, ?_⟩
          refine AH.done (by kernel_rfl) ?_
          exact EW.cutK [3, 8, 9] ⟨b9, _, hC, rfl, by omega, by omega, by omega, by omega, by omega, rfl, hB8, hB9⟩
        · skip
          refine (OP.call (by decide) Tryd.func33 (by kernel_rfl) (by kernel_rfl) rfl (name_any _ _) ?_)
          rintro ed w37 ⟨rfl, hc_w37⟩
          refine ⟨_, rfl, ?_⟩
          have hB6 := hc_w37.at hB6 (fun e => e)
          have hB8 := hc_w37.at hB8 (fun e => e)
          have hN := hc_w37.at hN (fun e => e)
          have hB9 := hc_w37.at hB9 (fun e => e)
          have hC := hC.trans hc_w37
          have hz_w37 := hc_w37.size
          refine ⟨⟨hB6.trans hB6_d.symm, hB8.trans hB8_d.symm⟩, ?_⟩
          refine AH.either 16 21 (by kernel_rfl) rfl rfl rfl rfl ?_ ?_
          · skip
            refine (OP.val (by decide) (R.load Tryd.underlying3 rfl rfl (by rw [Nat.zero_add, Nat.mul_one]; exact cell_at hN (by rw [List.getElem?_toArray, List.getElem?_map, codeN_at f]; rfl))) ?_)
            refine ⟨⟨hB6.trans hB6_d.symm, hB8.trans hB8_d.symm⟩, ?_⟩
            refine AH.eff 21 (by kernel_rfl) rfl rfl (OP.call (by decide) Tryd.func48 (by kernel_rfl) (by kernel_rfl) rfl (record_any _ _ hq) ?_)
            rintro ed w38 ⟨rfl, hc_w38⟩
            refine ⟨_, rfl, ?_⟩
            have hB6 := hc_w38.at hB6 (fun e => e)
            have hB8 := hc_w38.at hB8 (fun e => e)
            have hN := hc_w38.at hN (fun e => e)
            have hB9 := hc_w38.at hB9 (fun e => e)
            have hC := hC.trans hc_w38
            have hz_w38 := hc_w38.size
            refine ⟨⟨hB6.trans hB6_d.symm, hB8.trans hB8_d.symm⟩, ?_⟩
            refine AH.take 22 rfl (by kernel_rfl) (by kernel_rfl) (by kernel_rfl) (fun _ _ _ _ h => h) (⟨hB6.trans hB6_d.symm, hB8.trans hB8_d.symm⟩) (by decide) (fun w hS => R.field1 Tryd.underlying57 rfl Tryd.underlying3 rfl rfl (recS q).at1) ?_
            refine AH.take 23 rfl (by kernel_rfl) (by kernel_rfl) (by kernel_rfl) (fun _ _ _ _ h => h) (⟨hB6.trans hB6_d.symm, hB8.trans hB8_d.symm⟩) (by decide) (fun w hS => R.build (parts := [(0, _), (1, _)]) (vals := [(0, _), (1, _)]) rfl (fun w => build25_2 _ _ w)) ?_
            refine AH.take 24 rfl (by kernel_rfl) (by kernel_rfl) (by kernel_rfl) (fun _ _ _ _ h => h) (⟨hB6.trans hB6_d.symm, hB8.trans hB8_d.symm⟩) (by decide) (fun w hS => R.build (parts := [(0, _), (1, _), (2, _), (3, _), (4, _), (5, _)]) (vals := [(0, _), (1, _), (2, _), (3, _), (4, _), (5, _)]) rfl (fun w => build33_6 _ _ _ _ _ _ _ w)) ?_
            refine AH.eff 26 (by kernel_rfl) rfl rfl (OP.storeM rfl rfl hB9 ?_)
            intro w39 hc_w39 hs_w39 hB9
            have hB6 := hc_w39.at hB6 (fun e => by omega)
            have hB8 := hc_w39.at hB8 (fun e => by omega)
            have hN := hc_w39.at hN (fun e => by omega)
            have hC := hC.thenB hc_w39 (by omega)
            refine ⟨⟨hB6.trans hB6_d.symm, hB8.trans hB8_d.symm⟩, ?_⟩
            refine AH.done (by kernel_rfl) ?_
            exact EW.cutK [3, 8, 9] ⟨b9, _, hC, rfl, by omega, by omega, by omega, by omega, by omega, rfl, hB8, hB9⟩
          · skip
            refine (OP.call (by decide) Tryd.func48 (by kernel_rfl) (by kernel_rfl) rfl (record_any _ _ hq) ?_)
            rintro ed w40 ⟨rfl, hc_w40⟩
            refine ⟨_, rfl, ?_⟩
            have hB6 := hc_w40.at hB6 (fun e => e)
            have hB8 := hc_w40.at hB8 (fun e => e)
            have hN := hc_w40.at hN (fun e => e)
            have hB9 := hc_w40.at hB9 (fun e => e)
            have hC := hC.trans hc_w40
            have hz_w40 := hc_w40.size
            refine ⟨⟨hB6.trans hB6_d.symm, hB8.trans hB8_d.symm⟩, ?_⟩
            refine AH.take 22 rfl (by kernel_rfl) (by kernel_rfl) (by kernel_rfl) (fun _ _ _ _ h => h) (⟨hB6.trans hB6_d.symm, hB8.trans hB8_d.symm⟩) (by decide) (fun w hS => R.field1 Tryd.underlying57 rfl Tryd.underlying3 rfl rfl (recS q).at1) ?_
            refine AH.take 23 rfl (by kernel_rfl) (by kernel_rfl) (by kernel_rfl) (fun _ _ _ _ h => h) (⟨hB6.trans hB6_d.symm, hB8.trans hB8_d.symm⟩) (by decide) (fun w hS => R.build (parts := [(0, _), (1, _)]) (vals := [(0, _), (1, _)]) rfl (fun w => build25_2 _ _ w)) ?_
            refine AH.eff 16 (by kernel_rfl) rfl rfl (OP.val (by decide) (R.load Tryd.underlying3 rfl rfl (by rw [Nat.zero_add, Nat.mul_one]; exact cell_at hN (by rw [List.getElem?_toArray, List.getElem?_map, codeN_at f]; rfl))) ?_)
            refine ⟨⟨hB6.trans hB6_d.symm, hB8.trans hB8_d.symm⟩, ?_⟩
            refine AH.take 24 rfl (by kernel_rfl) (by kernel_rfl) (by kernel_rfl) (fun _ _ _ _ h => h) (⟨hB6.trans hB6_d.symm, hB8.trans hB8_d.symm⟩) (by decide) (fun w hS => R.build (parts := [(0, _), (1, _), (2, _), (3, _), (4, _), (5, _)]) (vals := [(0, _), (1, _), (2, _), (3, _), (4, _), (5, _)]) rfl (fun w => build33_6 _ _ _ _ _ _ _ w)) ?_
            refine AH.eff 26 (by kernel_rfl) rfl rfl (OP.storeM rfl rfl hB9 ?_)
            intro w41 hc_w41 hs_w41 hB9
            have hB6 := hc_w41.at hB6 (fun e => by omega)
            have hB8 := hc_w41.at hB8 (fun e => by omega)
            have hN := hc_w41.at hN (fun e => by omega)
            have hC := hC.thenB hc_w41 (by omega)
            refine ⟨⟨hB6.trans hB6_d.symm, hB8.trans hB8_d.symm⟩, ?_⟩
            refine AH.done (by kernel_rfl) ?_
            exact EW.cutK [3, 8, 9] ⟨b9, _, hC, rfl, by omega, by omega, by omega, by omega, by omega, rfl, hB8, hB9⟩
    · skip
      refine (OP.call (by decide) Tryd.func33 (by kernel_rfl) (by kernel_rfl) rfl (name_any _ _) ?_)
      rintro ed w42 ⟨rfl, hc_w42⟩
      refine ⟨_, rfl, ?_⟩
      have hB6 := hc_w42.at hB6 (fun e => e)
      have hB8 := hc_w42.at hB8 (fun e => e)
      have hC := hC.trans hc_w42
      have hz_w42 := hc_w42.size
      refine ⟨⟨hB6.trans hB6_d.symm, hB8.trans hB8_d.symm⟩, ?_⟩
      refine AH.three 11 21 25 (by kernel_rfl) rfl rfl rfl rfl rfl rfl ?_ ?_ ?_
      · skip
        refine (OP.buildSlice (parts := [(0, _), (1, _), (2, _), (3, _)]) (vals := [(0, _), (1, _), (2, _), (3, _)]) (cells := (codesA.map (Value.int .i64)).toArray) (ty := 3) (by decide) rfl slice_codes ?_)
        intro w43 hc_w43 hs_w43 hN
        obtain ⟨bN, he_bN⟩ : ∃ b, b = w42.heap.size := ⟨_, rfl⟩
        rw [← he_bN] at hN ⊢
        have hB6 := hc_w43.at hB6 (fun e => e)
        have hB8 := hc_w43.at hB8 (fun e => e)
        have hC := hC.trans hc_w43
        have hz_w43 := hc_w43.size
        refine ⟨⟨hB6.trans hB6_d.symm, hB8.trans hB8_d.symm⟩, ?_⟩
        refine AH.take 15 rfl (by kernel_rfl) (by kernel_rfl) (by kernel_rfl) (fun _ _ _ _ h => h) (⟨hB6.trans hB6_d.symm, hB8.trans hB8_d.symm⟩) (by decide) (fun w hS => R.indexAddr1 (i := (f / 2 ^ (3 : Int).toNat % 4).toNat) Tryd.underlying65 sz3 rfl rfl (by omega) (by omega)) ?_
        refine AH.three 16 21 25 (by kernel_rfl) rfl rfl rfl rfl rfl rfl ?_ ?_ ?_
        · skip
          refine (OP.val (by decide) (R.load Tryd.underlying3 rfl rfl (by rw [Nat.zero_add, Nat.mul_one]; exact cell_at hN (by rw [List.getElem?_toArray, List.getElem?_map, codeN_at f]; rfl))) ?_)
          refine ⟨⟨hB6.trans hB6_d.symm, hB8.trans hB8_d.symm⟩, ?_⟩
          refine AH.either 21 25 (by kernel_rfl) rfl rfl rfl rfl ?_ ?_
          · skip
            refine (OP.call (by decide) Tryd.func48 (by kernel_rfl) (by kernel_rfl) rfl (record_any _ _ hq) ?_)
            rintro ed w44 ⟨rfl, hc_w44⟩
            refine ⟨_, rfl, ?_⟩
            have hB6 := hc_w44.at hB6 (fun e => e)
            have hB8 := hc_w44.at hB8 (fun e => e)
            have hN := hc_w44.at hN (fun e => e)
            have hC := hC.trans hc_w44
            have hz_w44 := hc_w44.size
            refine ⟨⟨hB6.trans hB6_d.symm, hB8.trans hB8_d.symm⟩, ?_⟩
            refine AH.take 22 rfl (by kernel_rfl) (by kernel_rfl) (by kernel_rfl) (fun _ _ _ _ h => h) (⟨hB6.trans hB6_d.symm, hB8.trans hB8_d.symm⟩) (by decide) (fun w hS => R.field1 Tryd.underlying57 rfl Tryd.underlying3 rfl rfl (recS q).at1) ?_
            refine AH.take 23 rfl (by kernel_rfl) (by kernel_rfl) (by kernel_rfl) (fun _ _ _ _ h => h) (⟨hB6.trans hB6_d.symm, hB8.trans hB8_d.symm⟩) (by decide) (fun w hS => R.build (parts := [(0, _), (1, _)]) (vals := [(0, _), (1, _)]) rfl (fun w => build25_2 _ _ w)) ?_
            refine AH.take 24 rfl (by kernel_rfl) (by kernel_rfl) (by kernel_rfl) (fun _ _ _ _ h => h) (⟨hB6.trans hB6_d.symm, hB8.trans hB8_d.symm⟩) (by decide) (fun w hS => R.build (parts := [(0, _), (1, _), (2, _), (3, _), (4, _), (5, _)]) (vals := [(0, _), (1, _), (2, _), (3, _), (4, _), (5, _)]) rfl (fun w => build33_6 _ _ _ _ _ _ _ w)) ?_
            refine AH.eff 25 (by kernel_rfl) rfl rfl (OP.allocM (by decide) ?_)
            intro w45 hc_w45 hs_w45 hB9
            obtain ⟨b9, he_b9⟩ : ∃ b, b = w44.heap.size := ⟨_, rfl⟩
            rw [← he_b9] at hB9 ⊢
            have hB6 := hc_w45.at hB6 (fun e => e)
            have hB8 := hc_w45.at hB8 (fun e => e)
            have hN := hc_w45.at hN (fun e => e)
            have hC := hC.trans hc_w45
            have hz_w45 := hc_w45.size
            refine ⟨⟨hB6.trans hB6_d.symm, hB8.trans hB8_d.symm⟩, ?_⟩
            refine AH.eff 26 (by kernel_rfl) rfl rfl (OP.storeM rfl rfl hB9 ?_)
            intro w46 hc_w46 hs_w46 hB9
            have hB6 := hc_w46.at hB6 (fun e => by omega)
            have hB8 := hc_w46.at hB8 (fun e => by omega)
            have hN := hc_w46.at hN (fun e => by omega)
            have hC := hC.thenB hc_w46 (by omega)
            refine ⟨⟨hB6.trans hB6_d.symm, hB8.trans hB8_d.symm⟩, ?_⟩
            refine AH.done (by kernel_rfl) ?_
            exact EW.cutK [3, 8, 9] ⟨b9, _, hC, rfl, by omega, by omega, by omega, by omega, by omega, rfl, hB8, hB9⟩
          · skip
            refine (OP.allocM (by decide) ?_)
            intro w47 hc_w47 hs_w47 hB9
            obtain ⟨b9, he_b9⟩ : ∃ b, b = w43.heap.size := ⟨_, rfl⟩
            rw [← he_b9] at hB9 ⊢
            have hB6 := hc_w47.at hB6 (fun e => e)
            have hB8 := hc_w47.at hB8 (fun e => e)
            have hN := hc_w47.at hN (fun e => e)
            have hC := hC.trans hc_w47
            have hz_w47 := hc_w47.size
            refine ⟨⟨hB6.trans hB6_d.symm, hB8.trans hB8_d.symm⟩, ?_⟩
            refine AH.eff 21 (by kernel_rfl) rfl rfl (OP.call (by decide) Tryd.func48 (by kernel_rfl) (by kernel_rfl) rfl (record_any _ _ hq) ?_)
            rintro ed w48 ⟨rfl, hc_w48⟩
            refine ⟨_, rfl, ?_⟩
            have hB6 := hc_w48.at hB6 (fun e => e)
            have hB8 := hc_w48.at hB8 (fun e => e)
            have hN := hc_w48.at hN (fun e => e)
            have hB9 := hc_w48.at hB9 (fun e => e)
            have hC := hC.trans hc_w48
            have hz_w48 := hc_w48.size
            refine ⟨⟨hB6.trans hB6_d.symm, hB8.trans hB8_d.symm⟩, ?_⟩
            refine AH.take 22 rfl (by kernel_rfl) (by kernel_rfl) (by kernel_rfl) (fun _ _ _ _ h => h) (⟨hB6.trans hB6_d.symm, hB8.trans hB8_d.symm⟩) (by decide) (fun w hS => R.field1 Tryd.underlying57 rfl Tryd.underlying3 rfl rfl (recS q).at1) ?_
            refine AH.take 23 rfl (by kernel_rfl) (by kernel_rfl) (by kernel_rfl) (fun _ _ _ _ h => h) (⟨hB6.trans hB6_d.symm, hB8.trans hB8_d.symm⟩) (by decide) (fun w hS => R.build (parts := [(0, _), (1, _)]) (vals := [(0, _), (1, _)]) rfl (fun w => build25_2 _ _ w)) ?_
            refine AH.take 24 rfl (by kernel_rfl) (by kernel_rfl) (by kernel_rfl) (fun _ _ _ _ h => h) (⟨hB6.trans hB6_d.symm, hB8.trans hB8_d.symm⟩) (by decide) (fun w hS => R.build (parts := [(0, _), (1, _), (2, _), (3, _), (4, _), (5, _)]) (vals := [(0, _), (1, _), (2, _), (3, _), (4, _), (5, _)]) rfl (fun w => build33_6 _ _ _ _ _ _ _ w)) ?_
            refine AH.eff 26 (by kernel_rfl) rfl rfl (OP.storeM rfl rfl hB9 ?_)
            intro w49 hc_w49 hs_w49 hB9
            have hB6 := hc_w49.at hB6 (fun e => by omega)
            have hB8 := hc_w49.at hB8 (fun e => by omega)
            have hN := hc_w49.at hN (fun e => by omega)
            have hC := hC.thenB hc_w49 (by omega)
            refine ⟨⟨hB6.trans hB6_d.symm, hB8.trans hB8_d.symm⟩, ?_⟩
            refine AH.done (by kernel_rfl) ?_
            exact EW.cutK [3, 8, 9] ⟨b9, _, hC, rfl, by omega, by omega, by omega, by omega, by omega, rfl, hB8, hB9⟩
        · skip
          refine (OP.call (by decide) Tryd.func48 (by kernel_rfl) (by kernel_rfl) rfl (record_any _ _ hq) ?_)
          rintro ed w50 ⟨rfl, hc_w50⟩
          refine ⟨_, rfl, ?_⟩
          have hB6 := hc_w50.at hB6 (fun e => e)
          have hB8 := hc_w50.at hB8 (fun e => e)
          have hN := hc_w50.at hN (fun e => e)
          have hC := hC.trans hc_w50
          have hz_w50 := hc_w50.size
          refine ⟨⟨hB6.trans hB6_d.symm, hB8.trans hB8_d.symm⟩, ?_⟩
          refine AH.take 22 rfl (by kernel_rfl) (by kernel_rfl) (by kernel_rfl) (fun _ _ _ _ h => h) (⟨hB6.trans hB6_d.symm, hB8.trans hB8_d.symm⟩) (by decide) (fun w hS => R.field1 Tryd.underlying57 rfl Tryd.underlying3 rfl rfl (recS q).at1) ?_
          refine AH.take 23 rfl (by kernel_rfl) (by kernel_rfl) (by kernel_rfl) (fun _ _ _ _ h => h) (⟨hB6.trans hB6_d.symm, hB8.trans hB8_d.symm⟩) (by decide) (fun w hS => R.build (parts := [(0, _), (1, _)]) (vals := [(0, _), (1, _)]) rfl (fun w => build25_2 _ _ w)) ?_
          refine AH.either 16 25 (by kernel_rfl) rfl rfl rfl rfl ?_ ?_
          · skip
            refine (OP.val (by decide) (R.load Tryd.underlying3 rfl rfl (by rw [Nat.zero_add, Nat.mul_one]; exact cell_at hN (by rw [List.getElem?_toArray, List.getElem?_map, codeN_at f]; rfl))) ?_)
            refine ⟨⟨hB6.trans hB6_d.symm, hB8.trans hB8_d.symm⟩, ?_⟩
            refine AH.take 24 rfl (by kernel_rfl) (by kernel_rfl) (by kernel_rfl) (fun _ _ _ _ h => h) (⟨hB6.trans hB6_d.symm, hB8.trans hB8_d.symm⟩) (by decide) (fun w hS => R.build (parts := [(0, _), (1, _), (2, _), (3, _), (4, _), (5, _)]) (vals := [(0, _), (1, _), (2, _), (3, _), (4, _), (5, _)]) rfl (fun w => build33_6 _ _ _ _ _ _ _ w)) ?_
            refine AH.eff 25 (by kernel_rfl) rfl rfl (OP.allocM (by decide) ?_)
            intro w51 hc_w51 hs_w51 hB9
            obtain ⟨b9, he_b9⟩ : ∃ b, b = w50.heap.size := ⟨_, rfl⟩
            rw [← he_b9] at hB9 ⊢
            have hB6 := hc_w51.at hB6 (fun e => e)
            have hB8 := hc_w51.at hB8 (fun e => e)
            have hN := hc_w51.at hN (fun e => e)
            have hC := hC.trans hc_w51
            have hz_w51 := hc_w51.size
            refine ⟨⟨hB6.trans hB6_d.symm, hB8.trans hB8_d.symm⟩, ?_⟩
            refine AH.eff 26 (by kernel_rfl) rfl rfl (OP.storeM rfl rfl hB9 ?_)
            intro w52 hc_w52 hs_w52 hB9
            have hB6 := hc_w52.at hB6 (fun e => by omega)
            have hB8 := hc_w52.at hB8 (fun e => by omega)
            have hN := hc_w52.at hN (fun e => by omega)
            have hC := hC.thenB hc_w52 (by omega)
            refine ⟨⟨hB6.trans hB6_d.symm, hB8.trans hB8_d.symm⟩, ?_⟩
            refine AH.done (by kernel_rfl) ?_
            exact EW.cutK [3, 8, 9] ⟨b9, _, hC, rfl, by omega, by omega, by omega, by omega, by omega, rfl, hB8, hB9⟩
          · skip
            refine (OP.allocM (by decide) ?_)
            intro w53 hc_w53 hs_w53 hB9
            obtain ⟨b9, he_b9⟩ : ∃ b, b = w50.heap.size := ⟨_, rfl⟩
            rw [← he_b9] at hB9 ⊢
            have hB6 := hc_w53.at hB6 (fun e => e)
            have hB8 := hc_w53.at hB8 (fun e => e)
            have hN := hc_w53.at hN (fun e => e)
            have hC := hC.trans hc_w53
            have hz_w53 := hc_w53.size
            refine ⟨⟨hB6.trans hB6_d.symm, hB8.trans hB8_d.symm⟩, ?_⟩
            refine AH.eff 16 (by kernel_rfl) rfl rfl (OP.val (by decide) (R.load Tryd.underlying3 rfl rfl (by rw [Nat.zero_add, Nat.mul_one]; exact cell_at hN (by rw [List.getElem?_toArray, List.getElem?_map, codeN_at f]; rfl))) ?_)
            refine ⟨⟨hB6.trans hB6_d.symm, hB8.trans hB8_d.symm⟩, ?_⟩
            refine AH.take 24 rfl (by kernel_rfl) (by kernel_rfl) (by kernel_rfl) (fun _ _ _ _ h => h) (⟨hB6.trans hB6_d.symm, hB8.trans hB8_d.symm⟩) (by decide) (fun w hS => R.build (parts := [(0, _), (1, _), (2, _), (3, _), (4, _), (5, _)]) (vals := [(0, _), (1, _), (2, _), (3, _), (4, _), (5, _)]) rfl (fun w => build33_6 _ _ _ _ _ _ _ w)) ?_
            refine AH.eff 26 (by kernel_rfl) rfl rfl (OP.storeM rfl rfl hB9 ?_)
            intro w54 hc_w54 hs_w54 hB9
            have hB6 := hc_w54.at hB6 (fun e => by omega)
            have hB8 := hc_w54.at hB8 (fun e => by omega)
            have hN := hc_w54.at hN (fun e => by omega)
            have hC := hC.thenB hc_w54 (by omega)
            refine ⟨⟨hB6.trans hB6_d.symm, hB8.trans hB8_d.symm⟩, ?_⟩
            refine AH.done (by kernel_rfl) ?_
            exact EW.cutK [3, 8, 9] ⟨b9, _, hC, rfl, by omega, by omega, by omega, by omega, by omega, rfl, hB8, hB9⟩
        · skip
          refine (OP.allocM (by decide) ?_)
          intro w55 hc_w55 hs_w55 hB9
          obtain ⟨b9, he_b9⟩ : ∃ b, b = w43.heap.size := ⟨_, rfl⟩
          rw [← he_b9] at hB9 ⊢
          have hB6 := hc_w55.at hB6 (fun e => e)
          have hB8 := hc_w55.at hB8 (fun e => e)
          have hN := hc_w55.at hN (fun e => e)
          have hC := hC.trans hc_w55
          have hz_w55 := hc_w55.size
          refine ⟨⟨hB6.trans hB6_d.symm, hB8.trans hB8_d.symm⟩, ?_⟩
          refine AH.either 16 21 (by kernel_rfl) rfl rfl rfl rfl ?_ ?_
          · skip
            refine (OP.val (by decide) (R.load Tryd.underlying3 rfl rfl (by rw [Nat.zero_add, Nat.mul_one]; exact cell_at hN (by rw [List.getElem?_toArray, List.getElem?_map, codeN_at f]; rfl))) ?_)
            refine ⟨⟨hB6.trans hB6_d.symm, hB8.trans hB8_d.symm⟩, ?_⟩
            refine AH.eff 21 (by kernel_rfl) rfl rfl (OP.call (by decide) Tryd.func48 (by kernel_rfl) (by kernel_rfl) rfl (record_any _ _ hq) ?_)
            rintro ed w56 ⟨rfl, hc_w56⟩
            refine ⟨_, rfl, ?_⟩
            have hB6 := hc_w56.at hB6 (fun e => e)
            have hB8 := hc_w56.at hB8 (fun e => e)
            have hN := hc_w56.at hN (fun e => e)
            have hB9 := hc_w56.at hB9 (fun e => e)
            have hC := hC.trans hc_w56
            have hz_w56 := hc_w56.size
            refine ⟨⟨hB6.trans hB6_d.symm, hB8.trans hB8_d.symm⟩, ?_⟩
            refine AH.take 22 rfl (by kernel_rfl) (by kernel_rfl) (by kernel_rfl) (fun _ _ _ _ h => h) (⟨hB6.trans hB6_d.symm, hB8.trans hB8_d.symm⟩) (by decide) (fun w hS => R.field1 Tryd.underlying57 rfl Tryd.underlying3 rfl rfl (recS q).at1) ?_
            refine AH.take 23 rfl (by kernel_rfl) (by kernel_rfl) (by kernel_rfl) (fun _ _ _ _ h => h) (⟨hB6.trans hB6_d.symm, hB8.trans hB8_d.symm⟩) (by decide) (fun w hS => R.build (parts := [(0, _), (1, _)]) (vals := [(0, _), (1, _)]) rfl (fun w => build25_2 _ _ w)) ?_
            refine AH.take 24 rfl (by kernel_rfl) (by kernel_rfl) (by kernel_rfl) (fun _ _ _ _ h => h) (⟨hB6.trans hB6_d.symm, hB8.trans hB8_d.symm⟩) (by decide) (fun w hS => R.build (parts := [(0, _), (1, _), (2, _), (3, _), (4, _), (5, _)]) (vals := [(0, _), (1, _), (2, _), (3, _), (4, _), (5, _)]) rfl (fun w => build33_6 _ _ _ _ _ _ _ w)) ?_
            refine AH.eff 26 (by kernel_rfl) rfl rfl (OP.storeM rfl rfl hB9 ?_)
            intro w57 hc_w57 hs_w57 hB9
            have hB6 := hc_w57.at hB6 (fun e => by omega)
            have hB8 := hc_w57.at hB8 (fun e => by omega)
            have hN := hc_w57.at hN (fun e => by omega)
            have hC := hC.thenB hc_w57 (by omega)
            refine ⟨⟨hB6.trans hB6_d.symm, hB8.trans hB8_d.symm⟩, ?_⟩
            refine AH.done (by kernel_rfl) ?_
            exact EW.cutK [3, 8, 9] ⟨b9, _, hC, rfl, by omega, by omega, by omega, by omega, by omega, rfl, hB8, hB9⟩
          · skip
            refine (OP.call (by decide) Tryd.func48 (by kernel_rfl) (by kernel_rfl) rfl (record_any _ _ hq) ?_)
            rintro ed w58 ⟨rfl, hc_w58⟩
            refine ⟨_, rfl, ?_⟩
            have hB6 := hc_w58.at hB6 (fun e => e)
            have hB8 := hc_w58.at hB8 (fun e => e)
            have hN := hc_w58.at hN (fun e => e)
            have hB9 := hc_w58.at hB9 (fun e => e)
            have hC := hC.trans hc_w58
            have hz_w58 := hc_w58.size
            refine ⟨⟨hB6.trans hB6_d.symm, hB8.trans hB8_d.symm⟩, ?_⟩
            refine AH.take 22 rfl (by kernel_rfl) (by kernel_rfl) (by kernel_rfl) (fun _ _ _ _ h => h) (⟨hB6.trans hB6_d.symm, hB8.trans hB8_d.symm⟩) (by decide) (fun w hS => R.field1 Tryd.underlying57 rfl Tryd.underlying3 rfl rfl (recS q).at1) ?_
            refine AH.take 23 rfl (by kernel_rfl) (by kernel_rfl) (by kernel_rfl) (fun _ _ _ _ h => h) (⟨hB6.trans hB6_d.symm, hB8.trans hB8_d.symm⟩) (by decide) (fun w hS => R.build (parts := [(0, _), (1, _)]) (vals := [(0, _), (1, _)]) rfl (fun w => build25_2 _ _ w)) ?_
            refine AH.eff 16 (by kernel_rfl) rfl rfl (OP.val (by decide) (R.load Tryd.underlying3 rfl rfl (by rw [Nat.zero_add, Nat.mul_one]; exact cell_at hN (by rw [List.getElem?_toArray, List.getElem?_map, codeN_at f]; rfl))) ?_)
            refine ⟨⟨hB6.trans hB6_d.symm, hB8.trans hB8_d.symm⟩, ?_⟩
            refine AH.take 24 rfl (by kernel_rfl) (by kernel_rfl) (by kernel_rfl) (fun _ _ _ _ h => h) (⟨hB6.trans hB6_d.symm, hB8.trans hB8_d.symm⟩) (by decide) (fun w hS => R.build (parts := [(0, _), (1, _), (2, _), (3, _), (4, _), (5, _)]) (vals := [(0, _), (1, _), (2, _), (3, _), (4, _), (5, _)]) rfl (fun w => build33_6 _ _ _ _ _ _ _ w)) ?_
            refine AH.eff 26 (by kernel_rfl) rfl rfl (OP.storeM rfl rfl hB9 ?_)
            intro w59 hc_w59 hs_w59 hB9
            have hB6 := hc_w59.at hB6 (fun e => by omega)
            have hB8 := hc_w59.at hB8 (fun e => by omega)
            have hN := hc_w59.at hN (fun e => by omega)
            have hC := hC.thenB hc_w59 (by omega)
            refine ⟨⟨hB6.trans hB6_d.symm, hB8.trans hB8_d.symm⟩, ?_⟩
            refine AH.done (by kernel_rfl) ?_
            exact EW.cutK [3, 8, 9] ⟨b9, _, hC, rfl, by omega, by omega, by omega, by omega, by omega, rfl, hB8, hB9⟩
      · skip
        refine (OP.call (by decide) Tryd.func48 (by kernel_rfl) (by kernel_rfl) rfl (record_any _ _ hq) ?_)
        rintro ed w60 ⟨rfl, hc_w60⟩
        refine ⟨_, rfl, ?_⟩
        have hB6 := hc_w60.at hB6 (fun e => e)
        have hB8 := hc_w60.at hB8 (fun e => e)
        have hC := hC.trans hc_w60
        have hz_w60 := hc_w60.size
        refine ⟨⟨hB6.trans hB6_d.symm, hB8.trans hB8_d.symm⟩, ?_⟩
        refine AH.take 22 rfl (by kernel_rfl) (by kernel_rfl) (by kernel_rfl) (fun _ _ _ _ h => h) (⟨hB6.trans hB6_d.symm, hB8.trans hB8_d.symm⟩) (by decide) (fun w hS => R.field1 Tryd.underlying57 rfl Tryd.underlying3 rfl rfl (recS q).at1) ?_
        refine AH.take 23 rfl (by kernel_rfl) (by kernel_rfl) (by kernel_rfl) (fun _ _ _ _ h => h) (⟨hB6.trans hB6_d.symm, hB8.trans hB8_d.symm⟩) (by decide) (fun w hS => R.build (parts := [(0, _), (1, _)]) (vals := [(0, _), (1, _)]) rfl (fun w => build25_2 _ _ w)) ?_
        refine AH.either 11 25 (by kernel_rfl) rfl rfl rfl rfl ?_ ?_
        · skip
          refine (OP.buildSlice (parts := [(0, _), (1, _), (2, _), (3, _)]) (vals := [(0, _), (1, _), (2, _), (3, _)]) (cells := (codesA.map (Value.int .i64)).toArray) (ty := 3) (by decide) rfl slice_codes ?_)
          intro w61 hc_w61 hs_w61 hN
          obtain ⟨bN, he_bN⟩ : ∃ b, b = w60.heap.size := ⟨_, rfl⟩
          rw [← he_bN] at hN ⊢
          have hB6 := hc_w61.at hB6 (fun e => e)
          have hB8 := hc_w61.at hB8 (fun e => e)
          have hC := hC.trans hc_w61
          have hz_w61 := hc_w61.size
          refine ⟨⟨hB6.trans hB6_d.symm, hB8.trans hB8_d.symm⟩, ?_⟩
          refine AH.take 15 rfl (by kernel_rfl) (by kernel_rfl) (by kernel_rfl) (fun _ _ _ _ h => h) (⟨hB6.trans hB6_d.symm, hB8.trans hB8_d.symm⟩) (by decide) (fun w hS => R.indexAddr1 (i := (f / 2 ^ (3 : Int).toNat % 4).toNat) Tryd.underlying65 sz3 rfl rfl (by omega) (by omega)) ?_
          refine AH.either 16 25 (by kernel_rfl) rfl rfl rfl rfl ?_ ?_
          · skip
            refine (OP.val (by decide) (R.load Tryd.underlying3 rfl rfl (by rw [Nat.zero_add, Nat.mul_one]; exact cell_at hN (by rw [List.getElem?_toArray, List.getElem?_map, codeN_at f]; rfl))) ?_)
            refine ⟨⟨hB6.trans hB6_d.symm, hB8.trans hB8_d.symm⟩, ?_⟩
            refine AH.take 24 rfl (by kernel_rfl) (by kernel_rfl) (by kernel_rfl) (fun _ _ _ _ h => h) (⟨hB6.trans hB6_d.symm, hB8.trans hB8_d.symm⟩) (by decide) (fun w hS => R.build (parts := [(0, _), (1, _), (2, _), (3, _), (4, _), (5, _)]) (vals := [(0, _), (1, _), (2, _), (3, _), (4, _), (5, _)]) rfl (fun w => build33_6 _ _ _ _ _ _ _ w)) ?_
            refine AH.eff 25 (by kernel_rfl) rfl rfl (OP.allocM (by decide) ?_)
            intro w62 hc_w62 hs_w62 hB9
            obtain ⟨b9, he_b9⟩ : ∃ b, b = w61.heap.size := ⟨_, rfl⟩
            rw [← he_b9] at hB9 ⊢
            have hB6 := hc_w62.at hB6 (fun e => e)
            have hB8 := hc_w62.at hB8 (fun e => e)
            have hN := hc_w62.at hN (fun e => e)
            have hC := hC.trans hc_w62
            have hz_w62 := hc_w62.size
            refine ⟨⟨hB6.trans hB6_d.symm, hB8.trans hB8_d.symm⟩, ?_⟩
            refine AH.eff 26 (by kernel_rfl) rfl rfl (OP.storeM rfl rfl hB9 ?_)
            intro w63 hc_w63 hs_w63 hB9
            have hB6 := hc_w63.at hB6 (fun e => by omega)
            have hB8 := hc_w63.at hB8 (fun e => by omega)
            have hN := hc_w63.at hN (fun e => by omega)
            have hC := hC.thenB hc_w63 (by omega)
            refine ⟨⟨hB6.trans hB6_d.symm, hB8.trans hB8_d.symm⟩, ?_⟩
            refine AH.done (by kernel_rfl) ?_
            exact EW.cutK [3, 8, 9] ⟨b9, _, hC, rfl, by omega, by omega, by omega, by omega, by omega, rfl, hB8, hB9⟩
          · skip
            refine (OP.allocM (by decide) ?_)
            intro w64 hc_w64 hs_w64 hB9
            obtain ⟨b9, he_b9⟩ : ∃ b, b = w61.heap.size := ⟨_, rfl⟩
            rw [← he_b9] at hB9 ⊢
            have hB6 := hc_w64.at hB6 (fun e => e)
            have hB8 := hc_w64.at hB8 (fun e => e)
            have hN := hc_w64.at hN (fun e => e)
            have hC := hC.trans hc_w64
            have hz_w64 := hc_w64.size
            refine ⟨⟨hB6.trans hB6_d.symm, hB8.trans hB8_d.symm⟩, ?_⟩
            refine AH.eff 16 (by kernel_rfl) rfl rfl (OP.val (by decide) (R.load Tryd.underlying3 rfl rfl (by rw [Nat.zero_add, Nat.mul_one]; exact cell_at hN (by rw [List.getElem?_toArray, List.getElem?_map, codeN_at f]; rfl))) ?_)
            refine ⟨⟨hB6.trans hB6_d.symm, hB8.trans hB8_d.symm⟩, ?_⟩
            refine AH.take 24 rfl (by kernel_rfl) (by kernel_rfl) (by kernel_rfl) (fun _ _ _ _ h => h) (⟨hB6.trans hB6_d.symm, hB8.trans hB8_d.symm⟩) (by decide) (fun w hS => R.build (parts := [(0, _), (1, _), (2, _), (3, _), (4, _), (5, _)]) (vals := [(0, _), (1, _), (2, _), (3, _), (4, _), (5, _)]) rfl (fun w => build33_6 _ _ _ _ _ _ _ w)) ?_
            refine AH.eff 26 (by kernel_rfl) rfl rfl (OP.storeM rfl rfl hB9 ?_)
            intro w65 hc_w65 hs_w65 hB9
            have hB6 := hc_w65.at hB6 (fun e => by omega)
            have hB8 := hc_w65.at hB8 (fun e => by omega)
            have hN := hc_w65.at hN (fun e => by omega)
            have hC := hC.thenB hc_w65 (by omega)
            refine ⟨⟨hB6.trans hB6_d.symm, hB8.trans hB8_d.symm⟩, ?_⟩
            refine AH.done (by kernel_rfl) ?_
            exact EW.cutK [3, 8, 9] ⟨b9, _, hC, rfl, by omega, by omega, by omega, by omega, by omega, rfl, hB8, hB9⟩
        · skip
          refine (OP.allocM (by decide) ?_)
          intro w66 hc_w66 hs_w66 hB9
          obtain ⟨b9, he_b9⟩ : ∃ b, b = w60.heap.size := ⟨_, rfl⟩
          rw [← he_b9] at hB9 ⊢
          have hB6 := hc_w66.at hB6 (fun e => e)
          have hB8 := hc_w66.at hB8 (fun e => e)
          have hC := hC.trans hc_w66
          have hz_w66 := hc_w66.size
          refine ⟨⟨hB6.trans hB6_d.symm, hB8.trans hB8_d.symm⟩, ?_⟩
          refine AH.eff 11 (by kernel_rfl) rfl rfl (OP.buildSlice (parts := [(0, _), (1, _), (2, _), (3, _)]) (vals := [(0, _), (1, _), (2, _), (3, _)]) (cells := (codesA.map (Value.int .i64)).toArray) (ty := 3) (by decide) rfl slice_codes ?_)
          intro w67 hc_w67 hs_w67 hN
          obtain ⟨bN, he_bN⟩ : ∃ b, b = w66.heap.size := ⟨_, rfl⟩
          rw [← he_bN] at hN ⊢
          have hB6 := hc_w67.at hB6 (fun e => e)
          have hB8 := hc_w67.at hB8 (fun e => e)
          have hB9 := hc_w67.at hB9 (fun e => e)
          have hC := hC.trans hc_w67
          have hz_w67 := hc_w67.size
          refine ⟨⟨hB6.trans hB6_d.symm, hB8.trans hB8_d.symm⟩, ?_⟩
          refine AH.take 15 rfl (by kernel_rfl) (by kernel_rfl) (by kernel_rfl) (fun _ _ _ _ h => h) (⟨hB6.trans hB6_d.symm, hB8.trans hB8_d.symm⟩) (by decide) (fun w hS => R.indexAddr1 (i := (f / 2 ^ (3 : Int).toNat % 4).toNat) Tryd.underlying65 sz3 rfl rfl (by omega) (by omega)) ?_
          refine AH.eff 16 (by kernel_rfl) rfl rfl (OP.val (by decide) (R.load Tryd.underlying3 rfl rfl (by rw [Nat.zero_add, Nat.mul_one]; exact cell_at hN (by rw [List.getElem?_toArray, List.getElem?_map, codeN_at f]; rfl))) ?_)
          refine ⟨⟨hB6.trans hB6_d.symm, hB8.trans hB8_d.symm⟩, ?_⟩
          refine AH.take 24 rfl (by kernel_rfl) (by kernel_rfl) (by kernel_rfl) (fun _ _ _ _ h => h) (⟨hB6.trans hB6_d.symm, hB8.trans hB8_d.symm⟩) (by decide) (fun w hS => R.build (parts := [(0, _), (1, _), (2, _), (3, _), (4, _), (5, _)]) (vals := [(0, _), (1, _), (2, _), (3, _), (4, _), (5, _)]) rfl (fun w => build33_6 _ _ _ _ _ _ _ w)) ?_
          refine AH.eff 26 (by kernel_rfl) rfl rfl (OP.storeM rfl rfl hB9 ?_)
          intro w68 hc_w68 hs_w68 hB9
          have hB6 := hc_w68.at hB6 (fun e => by omega)
          have hB8 := hc_w68.at hB8 (fun e => by omega)
          have hN := hc_w68.at hN (fun e => by omega)
          have hC := hC.thenB hc_w68 (by omega)
          refine ⟨⟨hB6.trans hB6_d.symm, hB8.trans hB8_d.symm⟩, ?_⟩
          refine AH.done (by kernel_rfl) ?_
          exact EW.cutK [3, 8, 9] ⟨b9, _, hC, rfl, by omega, by omega, by omega, by omega, by omega, rfl, hB8, hB9⟩
      · skip
        refine (OP.allocM (by decide) ?_)
        intro w69 hc_w69 hs_w69 hB9
        obtain ⟨b9, he_b9⟩ : ∃ b, b = w42.heap.size := ⟨_, rfl⟩
        rw [← he_b9] at hB9 ⊢
        have hB6 := hc_w69.at hB6 (fun e => e)
        have hB8 := hc_w69.at hB8 (fun e => e)
        have hC := hC.trans hc_w69
        have hz_w69 := hc_w69.size
        refine ⟨⟨hB6.trans hB6_d.symm, hB8.trans hB8_d.symm⟩, ?_⟩
        refine AH.either 11 21 (by kernel_rfl) rfl rfl rfl rfl ?_ ?_
        · skip
          refine (OP.buildSlice (parts := [(0, _), (1, _), (2, _), (3, _)]) (vals := [(0, _), (1, _), (2, _), (3, _)]) (cells := (codesA.map (Value.int .i64)).toArray) (ty := 3) (by decide) rfl slice_codes ?_)
          intro w70 hc_w70 hs_w70 hN
          obtain ⟨bN, he_bN⟩ : ∃ b, b = w69.heap.size := ⟨_, rfl⟩
          rw [← he_bN] at hN ⊢
          have hB6 := hc_w70.at hB6 (fun e => e)
          have hB8 := hc_w70.at hB8 (fun e => e)
          have hB9 := hc_w70.at hB9 (fun e => e)
          have hC := hC.trans hc_w70
          have hz_w70 := hc_w70.size
          refine ⟨⟨hB6.trans hB6_d.symm, hB8.trans hB8_d.symm⟩, ?_⟩
          refine AH.take 15 rfl (by kernel_rfl) (by kernel_rfl) (by kernel_rfl) (fun _ _ _ _ h => h) (⟨hB6.trans hB6_d.symm, hB8.trans hB8_d.symm⟩) (by decide) (fun w hS => R.indexAddr1 (i := (f / 2 ^ (3 : Int).toNat % 4).toNat) Tryd.underlying65 sz3 rfl rfl (by omega) (by omega)) ?_
          refine AH.either 16 21 (by kernel_rfl) rfl rfl rfl rfl ?_ ?_
          · skip
            refine (OP.val (by decide) (R.load Tryd.underlying3 rfl rfl (by rw [Nat.zero_add, Nat.mul_one]; exact cell_at hN (by rw [List.getElem?_toArray, List.getElem?_map, codeN_at f]; rfl))) ?_)
            refine ⟨⟨hB6.trans hB6_d.symm, hB8.trans hB8_d.symm⟩, ?_⟩
            refine AH.eff 21 (by kernel_rfl) rfl rfl (OP.call (by decide) Tryd.func48 (by kernel_rfl) (by kernel_rfl) rfl (record_any _ _ hq) ?_)
            rintro ed w71 ⟨rfl, hc_w71⟩
            refine ⟨_, rfl, ?_⟩
            have hB6 := hc_w71.at hB6 (fun e => e)
            have hB8 := hc_w71.at hB8 (fun e => e)
            have hB9 := hc_w71.at hB9 (fun e => e)
            have hN := hc_w71.at hN (fun e => e)
            have hC := hC.trans hc_w71
            have hz_w71 := hc_w71.size
            refine ⟨⟨hB6.trans hB6_d.symm, hB8.trans hB8_d.symm⟩, ?_⟩
            refine AH.take 22 rfl (by kernel_rfl) (by kernel_rfl) (by kernel_rfl) (fun _ _ _ _ h => h) (⟨hB6.trans hB6_d.symm, hB8.trans hB8_d.symm⟩) (by decide) (fun w hS => R.field1 Tryd.underlying57 rfl Tryd.underlying3 rfl rfl (recS q).at1) ?_
            refine AH.take 23 rfl (by kernel_rfl) (by kernel_rfl) (by kernel_rfl) (fun _ _ _ _ h => h) (⟨hB6.trans hB6_d.symm, hB8.trans hB8_d.symm⟩) (by decide) (fun w hS => R.build (parts := [(0, _), (1, _)]) (vals := [(0, _), (1, _)]) rfl (fun w => build25_2 _ _ w)) ?_
            refine AH.take 24 rfl (by kernel_rfl) (by kernel_rfl) (by kernel_rfl) (fun _ _ _ _ h => h) (⟨hB6.trans hB6_d.symm, hB8.trans hB8_d.symm⟩) (by decide) (fun w hS => R.build (parts := [(0, _), (1, _), (2, _), (3, _), (4, _), (5, _)]) (vals := [(0, _), (1, _), (2, _), (3, _), (4, _), (5, _)]) rfl (fun w => build33_6 _ _ _ _ _ _ _ w)) ?_
            refine AH.eff 26 (by kernel_rfl) rfl rfl (OP.storeM rfl rfl hB9 ?_)
            intro w72 hc_w72 hs_w72 hB9
            have hB6 := hc_w72.at hB6 (fun e => by omega)
            have hB8 := hc_w72.at hB8 (fun e => by omega)
            have hN := hc_w72.at hN (fun e => by omega)
            have hC := hC.thenB hc_w72 (by omega)
            refine ⟨⟨hB6.trans hB6_d.symm, hB8.trans hB8_d.symm⟩, ?_⟩
            refine AH.done (by kernel_rfl) ?_
            exact EW.cutK [3, 8, 9] ⟨b9, _, hC, rfl, by omega, by omega, by omega, by omega, by omega, rfl, hB8, hB9⟩
          · skip
            refine (OP.call (by decide) Tryd.func48 (by kernel_rfl) (by kernel_rfl) rfl (record_any _ _ hq) ?_)
            rintro ed w73 ⟨rfl, hc_w73⟩
            refine ⟨_, rfl, ?_⟩
            have hB6 := hc_w73.at hB6 (fun e => e)
            have hB8 := hc_w73.at hB8 (fun e => e)
            have hB9 := hc_w73.at hB9 (fun e => e)
            have hN := hc_w73.at hN (fun e => e)
            have hC := hC.trans hc_w73
            have hz_w73 := hc_w73.size
            refine ⟨⟨hB6.trans hB6_d.symm, hB8.trans hB8_d.symm⟩, ?_⟩
            refine AH.take 22 rfl (by kernel_rfl) (by kernel_rfl) (by kernel_rfl) (fun _ _ _ _ h => h) (⟨hB6.trans hB6_d.symm, hB8.trans hB8_d.symm⟩) (by decide) (fun w hS => R.field1 Tryd.underlying57 rfl Tryd.underlying3 rfl rfl (recS q).at1) ?_
            refine AH.take 23 rfl (by kernel_rfl) (by kernel_rfl) (by kernel_rfl) (fun _ _ _ _ h => h) (⟨hB6.trans hB6_d.symm, hB8.trans hB8_d.symm⟩) (by decide) (fun w hS => R.build (parts := [(0, _), (1, _)]) (vals := [(0, _), (1, _)]) rfl (fun w => build25_2 _ _ w)) ?_
            refine AH.eff 16 (by kernel_rfl) rfl rfl (OP.val (by decide) (R.load Tryd.underlying3 rfl rfl (by rw [Nat.zero_add, Nat.mul_one]; exact cell_at hN (by rw [List.getElem?_toArray, List.getElem?_map, codeN_at f]; rfl))) ?_)
            refine ⟨⟨hB6.trans hB6_d.symm, hB8.trans hB8_d.symm⟩, ?_⟩
            refine AH.take 24 rfl (by kernel_rfl) (by kernel_rfl) (by kernel_rfl) (fun _ _ _ _ h => h) (⟨hB6.trans hB6_d.symm, hB8.trans hB8_d.symm⟩) (by decide) (fun w hS => R.build (parts := [(0, _), (1, _), (2, _), (3, _), (4, _), (5, _)]) (vals := [(0, _), (1, _), (2, _), (3, _), (4, _), (5, _)]) rfl (fun w => build33_6 _ _ _ _ _ _ _ w)) ?_
            refine AH.eff 26 (by kernel_rfl) rfl rfl (OP.storeM rfl rfl hB9 ?_)
            intro w74 hc_w74 hs_w74 hB9
            have hB6 := hc_w74.at hB6 (fun e => by omega)
            have hB8 := hc_w74.at hB8 (fun e => by omega)
            have hN := hc_w74.at hN (fun e => by omega)
            have hC := hC.thenB hc_w74 (by omega)
            refine ⟨⟨hB6.trans hB6_d.symm, hB8.trans hB8_d.symm⟩, ?_⟩
            refine AH.done (by kernel_rfl) ?_
            exact EW.cutK [3, 8, 9] ⟨b9, _, hC, rfl, by omega, by omega, by omega, by omega, by omega, rfl, hB8, hB9⟩
        · skip
          refine (OP.call (by decide) Tryd.func48 (by kernel_rfl) (by kernel_rfl) rfl (record_any _ _ hq) ?_)
          rintro ed w75 ⟨rfl, hc_w75⟩
          refine ⟨_, rfl, ?_⟩
          have hB6 := hc_w75.at hB6 (fun e => e)
          have hB8 := hc_w75.at hB8 (fun e => e)
          have hB9 := hc_w75.at hB9 (fun e => e)
          have hC := hC.trans hc_w75
          have hz_w75 := hc_w75.size
          refine ⟨⟨hB6.trans hB6_d.symm, hB8.trans hB8_d.symm⟩, ?_⟩
          refine AH.take 22 rfl (by kernel_rfl) (by kernel_rfl) (by kernel_rfl) (fun _ _ _ _ h => h) (⟨hB6.trans hB6_d.symm, hB8.trans hB8_d.symm⟩) (by decide) (fun w hS => R.field1 Tryd.underlying57 rfl Tryd.underlying3 rfl rfl (recS q).at1) ?_
          refine AH.take 23 rfl (by kernel_rfl) (by kernel_rfl) (by kernel_rfl) (fun _ _ _ _ h => h) (⟨hB6.trans hB6_d.symm, hB8.trans hB8_d.symm⟩) (by decide) (fun w hS => R.build (parts := [(0, _), (1, _)]) (vals := [(0, _), (1, _)]) rfl (fun w => build25_2 _ _ w)) ?_
          refine AH.eff 11 (by kernel_rfl) rfl rfl (OP.buildSlice (parts := [(0, _), (1, _), (2, _), (3, _)]) (vals := [(0, _), (1, _), (2, _), (3, _)]) (cells := (codesA.map (Value.int .i64)).toArray) (ty := 3) (by decide) rfl slice_codes ?_)
          intro w76 hc_w76 hs_w76 hN
          obtain ⟨bN, he_bN⟩ : ∃ b, b = w75.heap.size := ⟨_, rfl⟩
          rw [← he_bN] at hN ⊢
          have hB6 := hc_w76.at hB6 (fun e => e)
          have hB8 := hc_w76.at hB8 (fun e => e)
          have hB9 := hc_w76.at hB9 (fun e => e)
          have hC := hC.trans hc_w76
          have hz_w76 := hc_w76.size
          refine ⟨⟨hB6.trans hB6_d.symm, hB8.trans hB8_d.symm⟩, ?_⟩
          refine AH.take 15 rfl (by kernel_rfl) (by kernel_rfl) (by kernel_rfl) (fun _ _ _ _ h => h) (⟨hB6.trans hB6_d.symm, hB8.trans hB8_d.symm⟩) (by decide) (fun w hS => R.indexAddr1 (i := (f / 2 ^ (3 : Int).toNat % 4).toNat) Tryd.underlying65 sz3 rfl rfl (by omega) (by omega)) ?_
          refine AH.eff 16 (by kernel_rfl) rfl rfl (OP.val (by decide) (R.load Tryd.underlying3 rfl rfl (by rw [Nat.zero_add, Nat.mul_one]; exact cell_at hN (by rw [List.getElem?_toArray, List.getElem?_map, codeN_at f]; rfl))) ?_)
          refine ⟨⟨hB6.trans hB6_d.symm, hB8.trans hB8_d.symm⟩, ?_⟩
          refine AH.take 24 rfl (by kernel_rfl) (by kernel_rfl) (by kernel_rfl) (fun _ _ _ _ h => h) (⟨hB6.trans hB6_d.symm, hB8.trans hB8_d.symm⟩) (by decide) (fun w hS => R.build (parts := [(0, _), (1, _), (2, _), (3, _), (4, _), (5, _)]) (vals := [(0, _), (1, _), (2, _), (3, _), (4, _), (5, _)]) rfl (fun w => build33_6 _ _ _ _ _ _ _ w)) ?_
          refine AH.eff 26 (by kernel_rfl) rfl rfl (OP.storeM rfl rfl hB9 ?_)
          intro w77 hc_w77 hs_w77 hB9
          have hB6 := hc_w77.at hB6 (fun e => by omega)
          have hB8 := hc_w77.at hB8 (fun e => by omega)
          have hN := hc_w77.at hN (fun e => by omega)
          have hC := hC.thenB hc_w77 (by omega)
          refine ⟨⟨hB6.trans hB6_d.symm, hB8.trans hB8_d.symm⟩, ?_⟩
          refine AH.done (by kernel_rfl) ?_
          exact EW.cutK [3, 8, 9] ⟨b9, _, hC, rfl, by omega, by omega, by omega, by omega, by omega, rfl, hB8, hB9⟩
    · skip
      refine (OP.allocM (by decide) ?_)
      intro w78 hc_w78 hs_w78 hB9
      obtain ⟨b9, he_b9⟩ : ∃ b, b = w3.heap.size := ⟨_, rfl⟩
      rw [← he_b9] at hB9 ⊢
      have hB6 := hc_w78.at hB6 (fun e => e)
      have hB8 := hc_w78.at hB8 (fun e => e)
      have hC := hC.trans hc_w78
      have hz_w78 := hc_w78.size
      refine ⟨⟨hB6.trans hB6_d.symm, hB8.trans hB8_d.symm⟩, ?_⟩
      refine AH.either 11 19 (by kernel_rfl) rfl rfl rfl rfl ?_ ?_
      · skip
        refine (OP.buildSlice (parts := [(0, _), (1, _), (2, _), (3, _)]) (vals := [(0, _), (1, _), (2, _), (3, _)]) (cells := (codesA.map (Value.int .i64)).toArray) (ty := 3) (by decide) rfl slice_codes ?_)
        intro w79 hc_w79 hs_w79 hN
        obtain ⟨bN, he_bN⟩ : ∃ b, b = w78.heap.size := ⟨_, rfl⟩
        rw [← he_bN] at hN ⊢
        have hB6 := hc_w79.at hB6 (fun e => e)
        have hB8 := hc_w79.at hB8 (fun e => e)
        have hB9 := hc_w79.at hB9 (fun e => e)
        have hC := hC.trans hc_w79
        have hz_w79 := hc_w79.size
        refine ⟨⟨hB6.trans hB6_d.symm, hB8.trans hB8_d.symm⟩, ?_⟩
        refine AH.take 15 rfl (by kernel_rfl) (by kernel_rfl) (by kernel_rfl) (fun _ _ _ _ h => h) (⟨hB6.trans hB6_d.symm, hB8.trans hB8_d.symm⟩) (by decide) (fun w hS => R.indexAddr1 (i := (f / 2 ^ (3 : Int).toNat % 4).toNat) Tryd.underlying65 sz3 rfl rfl (by omega) (by omega)) ?_
        refine AH.either 16 19 (by kernel_rfl) rfl rfl rfl rfl ?_ ?_
        · skip
          refine (OP.val (by decide) (R.load Tryd.underlying3 rfl rfl (by rw [Nat.zero_add, Nat.mul_one]; exact cell_at hN (by rw [List.getElem?_toArray, List.getElem?_map, codeN_at f]; rfl))) ?_)
          refine ⟨⟨hB6.trans hB6_d.symm, hB8.trans hB8_d.symm⟩, ?_⟩
          refine AH.eff 19 (by kernel_rfl) rfl rfl (OP.call (by decide) Tryd.func33 (by kernel_rfl) (by kernel_rfl) rfl (name_any _ _) ?_)
          rintro ed w80 ⟨rfl, hc_w80⟩
          refine ⟨_, rfl, ?_⟩
          have hB6 := hc_w80.at hB6 (fun e => e)
          have hB8 := hc_w80.at hB8 (fun e => e)
          have hB9 := hc_w80.at hB9 (fun e => e)
          have hN := hc_w80.at hN (fun e => e)
          have hC := hC.trans hc_w80
          have hz_w80 := hc_w80.size
          refine ⟨⟨hB6.trans hB6_d.symm, hB8.trans hB8_d.symm⟩, ?_⟩
          refine AH.eff 21 (by kernel_rfl) rfl rfl (OP.call (by decide) Tryd.func48 (by kernel_rfl) (by kernel_rfl) rfl (record_any _ _ hq) ?_)
          rintro ed w81 ⟨rfl, hc_w81⟩
          refine ⟨_, rfl, ?_⟩
          have hB6 := hc_w81.at hB6 (fun e => e)
          have hB8 := hc_w81.at hB8 (fun e => e)
          have hB9 := hc_w81.at hB9 (fun e => e)
          have hN := hc_w81.at hN (fun e => e)
          have hC := hC.trans hc_w81
          have hz_w81 := hc_w81.size
          refine ⟨⟨hB6.trans hB6_d.symm, hB8.trans hB8_d.symm⟩, ?_⟩
          refine AH.take 22 rfl (by kernel_rfl) (by kernel_rfl) (by kernel_rfl) (fun _ _ _ _ h => h) (⟨hB6.trans hB6_d.symm, hB8.trans hB8_d.symm⟩) (by decide) (fun w hS => R.field1 Tryd.underlying57 rfl Tryd.underlying3 rfl rfl (recS q).at1) ?_
          refine AH.take 23 rfl (by kernel_rfl) (by kernel_rfl) (by kernel_rfl) (fun _ _ _ _ h => h) (⟨hB6.trans hB6_d.symm, hB8.trans hB8_d.symm⟩) (by decide) (fun w hS => R.build (parts := [(0, _), (1, _)]) (vals := [(0, _), (1, _)]) rfl (fun w => build25_2 _ _ w)) ?_
          refine AH.take 24 rfl (by kernel_rfl) (by kernel_rfl) (by kernel_rfl) (fun _ _ _ _ h => h) (⟨hB6.trans hB6_d.symm, hB8.trans hB8_d.symm⟩) (by decide) (fun w hS => R.build (parts := [(0, _), (1, _), (2, _), (3, _), (4, _), (5, _)]) (vals := [(0, _), (1, _), (2, _), (3, _), (4, _), (5, _)]) rfl (fun w => build33_6 _ _ _ _ _ _ _ w)) ?_
          refine AH.eff 26 (by kernel_rfl) rfl rfl (OP.storeM rfl rfl hB9 ?_)
          intro w82 hc_w82 hs_w82 hB9
          have hB6 := hc_w82.at hB6 (fun e => by omega)
          have hB8 := hc_w82.at hB8 (fun e => by omega)
          have hN := hc_w82.at hN (fun e => by omega)
          have hC := hC.thenB hc_w82 (by omega)
          refine ⟨⟨hB6.trans hB6_d.symm, hB8.trans hB8_d.symm⟩, ?_⟩
          refine AH.done (by kernel_rfl) ?_
          exact EW.cutK [3, 8, 9] ⟨b9, _, hC, rfl, by omega, by omega, by omega, by omega, by omega, rfl, hB8, hB9⟩
        · skip
          refine (OP.call (by decide) Tryd.func33 (by kernel_rfl) (by kernel_rfl) rfl (name_any _ _) ?_)
          rintro ed w83 ⟨rfl, hc_w83⟩
          refine ⟨_, rfl, ?_⟩
          have hB6 := hc_w83.at hB6 (fun e => e)
          have hB8 := hc_w83.at hB8 (fun e => e)
          have hB9 := hc_w83.at hB9 (fun e => e)
          have hN := hc_w83.at hN (fun e => e)
          have hC := hC.trans hc_w83
          have hz_w83 := hc_w83.size
          refine ⟨⟨hB6.trans hB6_d.symm, hB8.trans hB8_d.symm⟩, ?_⟩
          refine AH.either 16 21 (by kernel_rfl) rfl rfl rfl rfl ?_ ?_
          · skip
            refine (OP.val (by decide) (R.load Tryd.underlying3 rfl rfl (by rw [Nat.zero_add, Nat.mul_one]; exact cell_at hN (by rw [List.getElem?_toArray, List.getElem?_map, codeN_at f]; rfl))) ?_)
            refine ⟨⟨hB6.trans hB6_d.symm, hB8.trans hB8_d.symm⟩, ?_⟩
            refine AH.eff 21 (by kernel_rfl) rfl rfl (OP.call (by decide) Tryd.func48 (by kernel_rfl) (by kernel_rfl) rfl (record_any _ _ hq) ?_)
            rintro ed w84 ⟨rfl, hc_w84⟩
            refine ⟨_, rfl, ?_⟩
            have hB6 := hc_w84.at hB6 (fun e => e)
            have hB8 := hc_w84.at hB8 (fun e => e)
            have hB9 := hc_w84.at hB9 (fun e => e)
            have hN := hc_w84.at hN (fun e => e)
            have hC := hC.trans hc_w84
            have hz_w84 := hc_w84.size
            refine ⟨⟨hB6.trans hB6_d.symm, hB8.trans hB8_d.symm⟩, ?_⟩
            refine AH.take 22 rfl (by kernel_rfl) (by kernel_rfl) (by kernel_rfl) (fun _ _ _ _ h => h) (⟨hB6.trans hB6_d.symm, hB8.trans hB8_d.symm⟩) (by decide) (fun w hS => R.field1 Tryd.underlying57 rfl Tryd.underlying3 rfl rfl (recS q).at1) ?_
            refine AH.take 23 rfl (by kernel_rfl) (by kernel_rfl) (by kernel_rfl) (fun _ _ _ _ h => h) (⟨hB6.trans hB6_d.symm, hB8.trans hB8_d.symm⟩) (by decide) (fun w hS => R.build (parts := [(0, _), (1, _)]) (vals := [(0, _), (1, _)]) rfl (fun w => build25_2 _ _ w)) ?_
            refine AH.take 24 rfl (by kernel_rfl) (by kernel_rfl) (by kernel_rfl) (fun _ _ _ _ h => h) (⟨hB6.trans hB6_d.symm, hB8.trans hB8_d.symm⟩) (by decide) (fun w hS => R.build (parts := [(0, _), (1, _), (2, _), (3, _), (4, _), (5, _)]) (vals := [(0, _), (1, _), (2, _), (3, _), (4, _), (5, _)]) rfl (fun w => build33_6 _ _ _ _ _ _ _ w)) ?_
            refine AH.eff 26 (by kernel_rfl) rfl rfl (OP.storeM rfl rfl hB9 ?_)
            intro w85 hc_w85 hs_w85 hB9
            have hB6 := hc_w85.at hB6 (fun e => by omega)
            have hB8 := hc_w85.at hB8 (fun e => by omega)
            have hN := hc_w85.at hN (fun e => by omega)
            have hC := hC.thenB hc_w85 (by omega)
            refine ⟨⟨hB6.trans hB6_d.symm, hB8.trans hB8_d.symm⟩, ?_⟩
            refine AH.done (by kernel_rfl) ?_
            exact EW.cutK [3, 8, 9] ⟨b9, _, hC, rfl, by omega, by omega, by omega, by omega, by omega, rfl, hB8, hB9⟩
          · skip
            refine (OP.call (by decide) Tryd.func48 (by kernel_rfl) (by kernel_rfl) rfl (record_any _ _ hq) ?_)
            rintro ed w86 ⟨rfl, hc_w86⟩
            refine ⟨_, rfl, ?_⟩
            have hB6 := hc_w86.at hB6 (fun e => e)
            have hB8 := hc_w86.at hB8 (fun e => e)
            have hB9 := hc_w86.at hB9 (fun e => e)
            have hN := hc_w86.at hN (fun e => e)
            have hC := hC.trans hc_w86
            have hz_w86 := hc_w86.size
            refine ⟨⟨hB6.trans hB6_d.symm, hB8.trans hB8_d.symm⟩, ?_⟩
            refine AH.take 22 rfl (by kernel_rfl) (by kernel_rfl) (by kernel_rfl) (fun _ _ _ _ h => h) (⟨hB6.trans hB6_d.symm, hB8.trans hB8_d.symm⟩) (by decide) (fun w hS => R.field1 Tryd.underlying57 rfl Tryd.underlying3 rfl rfl (recS q).at1) ?_
            refine AH.take 23 rfl (by kernel_rfl) (by kernel_rfl) (by kernel_rfl) (fun _ _ _ _ h => h) (⟨hB6.trans hB6_d.symm, hB8.trans hB8_d.symm⟩) (by decide) (fun w hS => R.build (parts := [(0, _), (1, _)]) (vals := [(0, _), (1, _)]) rfl (fun w => build25_2 _ _ w)) ?_
            refine AH.eff 16 (by kernel_rfl) rfl rfl (OP.val (by decide) (R.load Tryd.underlying3 rfl rfl (by rw [Nat.zero_add, Nat.mul_one]; exact cell_at hN (by rw [List.getElem?_toArray, List.getElem?_map, codeN_at f]; rfl))) ?_)
            refine ⟨⟨hB6.trans hB6_d.symm, hB8.trans hB8_d.symm⟩, ?_⟩
            refine AH.take 24 rfl (by kernel_rfl) (by kernel_rfl) (by kernel_rfl) (fun _ _ _ _ h => h) (⟨hB6.trans hB6_d.symm, hB8.trans hB8_d.symm⟩) (by decide) (fun w hS => R.build (parts := [(0, _), (1, _), (2, _), (3, _), (4, _), (5, _)]) (vals := [(0, _), (1, _), (2, _), (3, _), (4, _), (5, _)]) rfl (fun w => build33_6 _ _ _ _ _ _ _ w)) ?_
            refine AH.eff 26 (by kernel_rfl) rfl rfl (OP.storeM rfl rfl hB9 ?_)
            intro w87 hc_w87 hs_w87 hB9
            have hB6 := hc_w87.at hB6 (fun e => by omega)
            have hB8 := hc_w87.at hB8 (fun e => by omega)
            have hN := hc_w87.at hN (fun e => by omega)
            have hC := hC.thenB hc_w87 (by omega)
            refine ⟨⟨hB6.trans hB6_d.symm, hB8.trans hB8_d.symm⟩, ?_⟩
            refine AH.done (by kernel_rfl) ?_
            exact EW.cutK [3, 8, 9] ⟨b9, _, hC, rfl, by omega, by omega, by omega, by omega, by omega, rfl, hB8, hB9⟩
      · skip
        refine (OP.call (by decide) Tryd.func33 (by kernel_rfl) (by kernel_rfl) rfl (name_any _ _) ?_)
        rintro ed w88 ⟨rfl, hc_w88⟩
        refine ⟨_, rfl, ?_⟩
        have hB6 := hc_w88.at hB6 (fun e => e)
        have hB8 := hc_w88.at hB8 (fun e => e)
        have hB9 := hc_w88.at hB9 (fun e => e)
        have hC := hC.trans hc_w88
        have hz_w88 := hc_w88.size
        refine ⟨⟨hB6.trans hB6_d.symm, hB8.trans hB8_d.symm⟩, ?_⟩
        refine AH.either 11 21 (by kernel_rfl) rfl rfl rfl rfl ?_ ?_
        · skip
          refine (OP.buildSlice (parts := [(0, _), (1, _), (2, _), (3, _)]) (vals := [(0, _), (1, _), (2, _), (3, _)]) (cells := (codesA.map (Value.int .i64)).toArray) (ty := 3) (by decide) rfl slice_codes ?_)
          intro w89 hc_w89 hs_w89 hN
          obtain ⟨bN, he_bN⟩ : ∃ b, b = w88.heap.size := ⟨_, rfl⟩
          rw [← he_bN] at hN ⊢
          have hB6 := hc_w89.at hB6 (fun e => e)
          have hB8 := hc_w89.at hB8 (fun e => e)
          have hB9 := hc_w89.at hB9 (fun e => e)
          have hC := hC.trans hc_w89
          have hz_w89 := hc_w89.size
          refine ⟨⟨hB6.trans hB6_d.symm, hB8.trans hB8_d.symm⟩, ?_⟩
          refine AH.take 15 rfl (by kernel_rfl) (by kernel_rfl) (by kernel_rfl) (fun _ _ _ _ h => h) (⟨hB6.trans hB6_d.symm, hB8.trans hB8_d.symm⟩) (by decide) (fun w hS => R.indexAddr1 (i := (f / 2 ^ (3 : Int).toNat % 4).toNat) Tryd.underlying65 sz3 rfl rfl (by omega) (by omega)) ?_
          refine AH.either 16 21 (by kernel_rfl) rfl rfl rfl rfl ?_ ?_
          · skip
            refine (OP.val (by decide) (R.load Tryd.underlying3 rfl rfl (by rw [Nat.zero_add, Nat.mul_one]; exact cell_at hN (by rw [List.getElem?_toArray, List.getElem?_map, codeN_at f]; rfl))) ?_)
            refine ⟨⟨hB6.trans hB6_d.symm, hB8.trans hB8_d.symm⟩, ?_⟩
            refine AH.eff 21 (by kernel_rfl) rfl rfl (OP.call (by decide) Tryd.func48 (by kernel_rfl) (by kernel_rfl) rfl (record_any _ _ hq) ?_)
            rintro ed w90 ⟨rfl, hc_w90⟩
            refine ⟨_, rfl, ?_⟩
            have hB6 := hc_w90.at hB6 (fun e => e)
            have hB8 := hc_w90.at hB8 (fun e => e)
            have hB9 := hc_w90.at hB9 (fun e => e)
            have hN := hc_w90.at hN (fun e => e)
            have hC := hC.trans hc_w90
            have hz_w90 := hc_w90.size
            refine ⟨⟨hB6.trans hB6_d.symm, hB8.trans hB8_d.symm⟩, ?_⟩
            refine AH.take 22 rfl (by kernel_rfl) (by kernel_rfl) (by kernel_rfl) (fun _ _ _ _ h => h) (⟨hB6.trans hB6_d.symm, hB8.trans hB8_d.symm⟩) (by decide) (fun w hS => R.field1 Tryd.underlying57 rfl Tryd.underlying3 rfl rfl (recS q).at1) ?_
            refine AH.take 23 rfl (by kernel_rfl) (by kernel_rfl) (by kernel_rfl) (fun _ _ _ _ h => h) (⟨hB6.trans hB6_d.symm, hB8.trans hB8_d.symm⟩) (by decide) (fun w hS => R.build (parts := [(0, _), (1, _)]) (vals := [(0, _), (1, _)]) rfl (fun w => build25_2 _ _ w)) ?_
            refine AH.take 24 rfl (by kernel_rfl) (by kernel_rfl) (by kernel_rfl) (fun _ _ _ _ h => h) (⟨hB6.trans hB6_d.symm, hB8.trans hB8_d.symm⟩) (by decide) (fun w hS => R.build (parts := [(0, _), (1, _), (2, _), (3, _), (4, _), (5, _)]) (vals := [(0, _), (1, _), (2, _), (3, _), (4, _), (5, _)]) rfl (fun w => build33_6 _ _ _ _ _ _ _ w)) ?_
            refine AH.eff 26 (by kernel_rfl) rfl rfl (OP.storeM rfl rfl hB9 ?_)
            intro w91 hc_w91 hs_w91 hB9
            have hB6 := hc_w91.at hB6 (fun e => by omega)
            have hB8 := hc_w91.at hB8 (fun e => by omega)
            have hN := hc_w91.at hN (fun e => by omega)
            have hC := hC.thenB hc_w91 (by omega)
            refine ⟨⟨hB6.trans hB6_d.symm, hB8.trans hB8_d.symm⟩, ?_⟩
            refine AH.done (by kernel_rfl) ?_
            exact EW.cutK [3, 8, 9] ⟨b9, _, hC, rfl, by omega, by omega, by omega, by omega, by omega, rfl, hB8, hB9⟩
          · skip
            refine (OP.call (by decide) Tryd.func48 (by kernel_rfl) (by kernel_rfl) rfl (record_any _ _ hq) ?_)
            rintro ed w92 ⟨rfl, hc_w92⟩
            refine ⟨_, rfl, ?_⟩
            have hB6 := hc_w92.at hB6 (fun e => e)
            have hB8 := hc_w92.at hB8 (fun e => e)
            have hB9 := hc_w92.at hB9 (fun e => e)
            have hN := hc_w92.at hN (fun e => e)
            have hC := hC.trans hc_w92
            have hz_w92 := hc_w92.size
            refine ⟨⟨hB6.trans hB6_d.symm, hB8.trans hB8_d.symm⟩, ?_⟩
            refine AH.take 22 rfl (by kernel_rfl) (by kernel_rfl) (by kernel_rfl) (fun _ _ _ _ h => h) (⟨hB6.trans hB6_d.symm, hB8.trans hB8_d.symm⟩) (by decide) (fun w hS => R.field1 Tryd.underlying57 rfl Tryd.underlying3 rfl rfl (recS q).at1) ?_
            refine AH.take 23 rfl (by kernel_rfl) (by kernel_rfl) (by kernel_rfl) (fun _ _ _ _ h => h) (⟨hB6.trans hB6_d.symm, hB8.trans hB8_d.symm⟩) (by decide) (fun w hS => R.build (parts := [(0, _), (1, _)]) (vals := [(0, _), (1, _)]) rfl (fun w => build25_2 _ _ w)) ?_
            refine AH.eff 16 (by kernel_rfl) rfl rfl (OP.val (by decide) (R.load Tryd.underlying3 rfl rfl (by rw [Nat.zero_add, Nat.mul_one]; exact cell_at hN (by rw [List.getElem?_toArray, List.getElem?_map, codeN_at f]; rfl))) ?_)
            refine ⟨⟨hB6.trans hB6_d.symm, hB8.trans hB8_d.symm⟩, ?_⟩
            refine AH.take 24 rfl (by kernel_rfl) (by kernel_rfl) (by kernel_rfl) (fun _ _ _ _ h => h) (⟨hB6.trans hB6_d.symm, hB8.trans hB8_d.symm⟩) (by decide) (fun w hS => R.build (parts := [(0, _), (1, _), (2, _), (3, _), (4, _), (5, _)]) (vals := [(0, _), (1, _), (2, _), (3, _), (4, _), (5, _)]) rfl (fun w => build33_6 _ _ _ _ _ _ _ w)) ?_
            refine AH.eff 26 (by kernel_rfl) rfl rfl (OP.storeM rfl rfl hB9 ?_)
            intro w93 hc_w93 hs_w93 hB9
            have hB6 := hc_w93.at hB6 (fun e => by omega)
            have hB8 := hc_w93.at hB8 (fun e => by omega)
            have hN := hc_w93.at hN (fun e => by omega)
            have hC := hC.thenB hc_w93 (by omega)
            refine ⟨⟨hB6.trans hB6_d.symm, hB8.trans hB8_d.symm⟩, ?_⟩
            refine AH.done (by kernel_rfl) ?_
            exact EW.cutK [3, 8, 9] ⟨b9, _, hC, rfl, by omega, by omega, by omega, by omega, by omega, rfl, hB8, hB9⟩
        · skip
          refine (OP.call (by decide) Tryd.func48 (by kernel_rfl) (by kernel_rfl) rfl (record_any _ _ hq) ?_)
          rintro ed w94 ⟨rfl, hc_w94⟩
          refine ⟨_, rfl, ?_⟩
          have hB6 := hc_w94.at hB6 (fun e => e)
          have hB8 := hc_w94.at hB8 (fun e => e)
          have hB9 := hc_w94.at hB9 (fun e => e)
          have hC := hC.trans hc_w94
          have hz_w94 := hc_w94.size
          refine ⟨⟨hB6.trans hB6_d.symm, hB8.trans hB8_d.symm⟩, ?_⟩
          refine AH.take 22 rfl (by kernel_rfl) (by kernel_rfl) (by kernel_rfl) (fun _ _ _ _ h => h) (⟨hB6.trans hB6_d.symm, hB8.trans hB8_d.symm⟩) (by decide) (fun w hS => R.field1 Tryd.underlying57 rfl Tryd.underlying3 rfl rfl (recS q).at1) ?_
          refine AH.take 23 rfl (by kernel_rfl) (by kernel_rfl) (by kernel_rfl) (fun _ _ _ _ h => h) (⟨hB6.trans hB6_d.symm, hB8.trans hB8_d.symm⟩) (by decide) (fun w hS => R.build (parts := [(0, _), (1, _)]) (vals := [(0, _), (1, _)]) rfl (fun w => build25_2 _ _ w)) ?_
          refine AH.eff 11 (by kernel_rfl) rfl rfl (OP.buildSlice (parts := [(0, _), (1, _), (2, _), (3, _)]) (vals := [(0, _), (1, _), (2, _), (3, _)]) (cells := (codesA.map (Value.int .i64)).toArray) (ty := 3) (by decide) rfl slice_codes ?_)
          intro w95 hc_w95 hs_w95 hN
          obtain ⟨bN, he_bN⟩ : ∃ b, b = w94.heap.size := ⟨_, rfl⟩
          rw [← he_bN] at hN ⊢
          have hB6 := hc_w95.at hB6 (fun e => e)
          have hB8 := hc_w95.at hB8 (fun e => e)
          have hB9 := hc_w95.at hB9 (fun e => e)
          have hC := hC.trans hc_w95
          have hz_w95 := hc_w95.size
          refine ⟨⟨hB6.trans hB6_d.symm, hB8.trans hB8_d.symm⟩, ?_⟩
          refine AH.take 15 rfl (by kernel_rfl) (by kernel_rfl) (by kernel_rfl) (fun _ _ _ _ h => h) (⟨hB6.trans hB6_d.symm, hB8.trans hB8_d.symm⟩) (by decide) (fun w hS => R.indexAddr1 (i := (f / 2 ^ (3 : Int).toNat % 4).toNat) Tryd.underlying65 sz3 rfl rfl (by omega) (by omega)) ?_
          refine AH.eff 16 (by kernel_rfl) rfl rfl (OP.val (by decide) (R.load Tryd.underlying3 rfl rfl (by rw [Nat.zero_add, Nat.mul_one]; exact cell_at hN (by rw [List.getElem?_toArray, List.getElem?_map, codeN_at f]; rfl))) ?_)
          refine ⟨⟨hB6.trans hB6_d.symm, hB8.trans hB8_d.symm⟩, ?_⟩
          refine AH.take 24 rfl (by kernel_rfl) (by kernel_rfl) (by kernel_rfl) (fun _ _ _ _ h => h) (⟨hB6.trans hB6_d.symm, hB8.trans hB8_d.symm⟩) (by decide) (fun w hS => R.build (parts := [(0, _), (1, _), (2, _), (3, _), (4, _), (5, _)]) (vals := [(0, _), (1, _), (2, _), (3, _), (4, _), (5, _)]) rfl (fun w => build33_6 _ _ _ _ _ _ _ w)) ?_
          refine AH.eff 26 (by kernel_rfl) rfl rfl (OP.storeM rfl rfl hB9 ?_)
          intro w96 hc_w96 hs_w96 hB9
          have hB6 := hc_w96.at hB6 (fun e => by omega)
          have hB8 := hc_w96.at hB8 (fun e => by omega)
          have hN := hc_w96.at hN (fun e => by omega)
          have hC := hC.thenB hc_w96 (by omega)
          refine ⟨⟨hB6.trans hB6_d.symm, hB8.trans hB8_d.symm⟩, ?_⟩
          refine AH.done (by kernel_rfl) ?_
          exact EW.cutK [3, 8, 9] ⟨b9, _, hC, rfl, by omega, by omega, by omega, by omega, by omega, rfl, hB8, hB9⟩
  · rintro le wc ⟨b9, base, hC, hbase, hb8, hb9, hb8b, hb9b, hne, rfl, hB8, hB9⟩
    have hz_hC := hC.size
    refine CW.seq ?_
    refine CW.rseq ?_
    refine WL.op (by decide) (R.move rfl) ?_
    refine WL.op (by decide) (R.lenSlice rfl Tryd.underlying48 rfl) ?_
    refine WL.op (by decide) (R.move rfl) ?_
    refine WL.next ?_
    refine CW.block ?_
    refine CW.loopK [8, 9, 38, 39, 40] (fun k le wr => Chg (fun _ => False) w0 wr ∧ base ≤ wr.heap.size ∧ ∃ (j : Nat) (jj : Int) (A1 : Option Addr) (c1 : Nat) (A2 : Option Addr) (c2 : Nat), j + k = l.length ∧ j ≤ 32 ∧ jj = (j : Int) ∧ le = [(8, .pointer (some ⟨b8, 0, none⟩)), (9, .pointer (some ⟨b9, 0, none⟩)), (38, .slice A m c), (39, .int .i64 m), (40, .int .i64 jj)] ∧ BM wr b8 msg0 (.slice none 0 0) (.slice none 0 0) ∧ BM wr b9 (withR (msgH id f q) (ansS (l.take j)) (authS (l.take j))) (.slice A1 (ansS (l.take j)).length c1) (.slice A2 (authS (l.take j)).length c2) ∧ RBuf wr base (.slice A1 (ansS (l.take j)).length c1) (ansS (l.take j)) ∧ RBuf wr base (.slice A2 (authS (l.take j)).length c2) (authS (l.take j)) ∧ Dis (.slice A1 (ansS (l.take j)).length c1) (.slice A2 (authS (l.take j)).length c2)) (l.length) ?_ ?_
    · exact ⟨hC, by omega, 0, 0, none, 0, none, 0, by omega, by omega, rfl, rfl, hB8, hB9, RBuf.nil _ _, RBuf.nil _ _, fun _ e => by cases e⟩
    · rintro k le wr ⟨hC, hbw, j, jj, A1, c1, A2, c2, hk, hj32, rfl, rfl, hB8, hB9, hRA, hRB, hD⟩
      have hla := ans_len l j
      have hlb := auth_len l j
      have hK : Chg (fun _ => False) wr wr := Chg.refl _ _
      have hz_hC := hC.size
      have hz_hK := hK.size
      refine CW.rseq ?_
      refine WL.lssS (by decide) rfl rfl (fun h1 => ?_) (fun h1 => ?_)
      · skip
        refine WL.next ?_
        refine CW.seq ?_
        refine CW.condT rfl ?_
        refine CW.skip ?_
        refine EW.next ?_
        refine CW.seq ?_
        refine CW.block ?_
        refine CW.rseq ?_
        refine WL.op (by decide) (R.move rfl) ?_
        obtain ⟨s, hs⟩ : ∃ s, l[j]? = some s := ⟨l[j]'(by omega), List.getElem?_eq_getElem _⟩
        obtain ⟨hlm2, g, o, hA, hcell⟩ := (hL.kept hC).at hs
        subst hA
        have hs16 := (hO s (List.mem_of_getElem? hs)).a
        have hsd := (hO s (List.mem_of_getElem? hs)).d
        have hr16 := recS_addr hs16
        refine WL.op (by decide) (R.indexAddr1 (i := j) Tryd.underlying48 sz50 rfl rfl (by omega) (by omega)) ?_
        refine WL.op (by decide) (R.loadSdAt hs16 rfl hcell) ?_
        refine WL.eff rfl (OP.allocSd (by decide) ?_)
        intro w97 hc_w97 hs_w97 hB11
        obtain ⟨b11, he_b11⟩ : ∃ b, b = wr.heap.size := ⟨_, rfl⟩
        rw [← he_b11] at hB11 ⊢
        have hB8 := hc_w97.at hB8 (fun e => e)
        have hB9 := hc_w97.at hB9 (fun e => e)
        have hC := hC.trans hc_w97
        have hK := hK.trans hc_w97
        have hz_w97 := hc_w97.size
        refine WL.op (by decide) (R.assign rfl) ?_
        refine WL.eff rfl (OP.storeSd (by assumption) (by first | rfl | assumption) rfl rfl hB11 ?_)
        intro w98 hc_w98 hs_w98 hB11
        have hB8 := hc_w98.at hB8 (fun e => by omega)
        have hB9 := hc_w98.at hB9 (fun e => by omega)
        have hC := hC.thenB hc_w98 (by omega)
        have hK := hK.thenB hc_w98 (by omega)
        refine WL.next ?_
        refine CW.seq ?_
        refine CW.rseq ?_
        refine WL.op (by decide) (R.move rfl) ?_
        refine WL.geqS (by decide) rfl rfl (fun h2 => ?_) (fun h2 => ?_)
        · skip
          refine WL.next ?_
          refine CW.condT rfl ?_
          refine CW.exit ?_
          refine EW.thenExit ?_
          refine EW.inFar (by decide) ?_
          refine EW.thenExit ?_
          refine EW.thenExit ?_
          refine EW.inHere ?_
          refine EW.next ?_
          refine CW.rseq ?_
          refine WL.op (by decide) (R.loadM rfl hB9) ?_
          have hRA := hRA.kept hK (fun _ _ e => e)
          have hRB := hRB.kept hK (fun _ _ e => e)
          have hT := take_end (l := l) (j := j) (by omega)
          have hE : withR (msgH id f q) (ansS (l.take j)) (authS (l.take j)) = msgS id f q l := by unfold msgS msgH withR; rw [hT]
          refine WL.eff rfl (OP.storeM rfl rfl hB8 ?_)
          intro w99 hc_w99 hs_w99 hB8
          rw [hE] at hB8
          have hB9 := hc_w99.at hB9 (fun e => by omega)
          have hB11 := hc_w99.at hB11 (fun e => by omega)
          have hC := hC.thenB hc_w99 (by omega)
          have hRA := hRA.kept hc_w99 (fun k e1 e2 => by have := hRA.lt k e1; omega)
          have hRB := hRB.kept hc_w99 (fun k e1 e2 => by have := hRB.lt k e1; omega)
          refine WL.next ?_
          refine CW.ret ?_
          exact EW.retC (.inl rfl) rfl rfl (cs := (msgS id f q l).cells (.slice A1 (ansS (l.take j)).length c1) (.slice A2 (authS (l.take j)).length c2)) Tryd.underlying33 rfl sz33 (fun j u hj => cell_at hB8 (by rw [List.getElem?_toArray]; exact hj)) ⟨hC, _, rfl, _, _, rfl, (by have := hRA.sl; rw [hT] at this ⊢; exact this), (by have := hRB.sl; rw [hT] at this ⊢; exact this), fun k e => Nat.le_trans (by omega) (hRA.lt k e).1, fun k e => Nat.le_trans (by omega) (hRB.lt k e).1⟩
        · skip
          refine WL.next ?_
          refine CW.condF rfl ?_
          refine CW.skip ?_
          refine EW.next ?_
          refine CW.rseq ?_
          refine WL.op (by decide) (R.loadSd (by assumption) rfl hB11) ?_
          refine WL.eff rfl (OP.call (by decide) Tryd.func48 (by kernel_rfl) (by kernel_rfl) rfl (record_any _ _ (hO s (List.mem_of_getElem? hs))) ?_)
          rintro ed w100 ⟨rfl, hc_w100⟩
          refine ⟨_, rfl, ?_⟩
          have hB8 := hc_w100.at hB8 (fun e => e)
          have hB9 := hc_w100.at hB9 (fun e => e)
          have hB11 := hc_w100.at hB11 (fun e => e)
          have hC := hC.trans hc_w100
          have hK := hK.trans hc_w100
          have hz_w100 := hc_w100.size
          refine WL.eff rfl (OP.allocR (by decide) ?_)
          intro w101 hc_w101 hs_w101 hB12
          obtain ⟨b12, he_b12⟩ : ∃ b, b = w100.heap.size := ⟨_, rfl⟩
          rw [← he_b12] at hB12 ⊢
          have hB8 := hc_w101.at hB8 (fun e => e)
          have hB9 := hc_w101.at hB9 (fun e => e)
          have hB11 := hc_w101.at hB11 (fun e => e)
          have hC := hC.trans hc_w101
          have hK := hK.trans hc_w101
          have hz_w101 := hc_w101.size
          refine WL.eff rfl (OP.storeR rfl rfl (by first | assumption | rfl) (by first | assumption | rfl) hB12 ?_)
          intro w102 hc_w102 hs_w102 hB12
          have hB8 := hc_w102.at hB8 (fun e => by omega)
          have hB9 := hc_w102.at hB9 (fun e => by omega)
          have hB11 := hc_w102.at hB11 (fun e => by omega)
          have hC := hC.thenB hc_w102 (by omega)
          have hK := hK.thenB hc_w102 (by omega)
          refine WL.next ?_
          refine CW.rseq ?_
          refine WL.op (by decide) (FA57_1 rfl) ?_
          refine WL.op (by decide) (R.load Tryd.underlying3 rfl rfl (cell_at hB12 rfl)) ?_
          refine WL.eqlS (by decide) rfl rfl (fun h3 => ?_) (fun h3 => ?_)
          · skip
            refine WL.next ?_
            refine CW.condT rfl ?_
            refine CW.region ?_
            refine WL.op (by decide) (FA33_7 rfl) ?_
            refine WL.op (by decide) (R.load Tryd.underlying31 rfl rfl (cell_at hB9 rfl)) ?_
            refine WL.op (by decide) (R.loadRB (by first | assumption | rfl) rfl hB12) ?_
            refine WL.eff rfl (OP.buildSliceR (by decide) rfl hr16 ?_)
            intro w103 hc_w103 hs_w103 hN
            have hB8 := hc_w103.at hB8 (fun e => e)
            have hB9 := hc_w103.at hB9 (fun e => e)
            have hB11 := hc_w103.at hB11 (fun e => e)
            have hB12 := hc_w103.at hB12 (fun e => e)
            have hC := hC.trans hc_w103
            have hK := hK.trans hc_w103
            have hz_w103 := hc_w103.size
            have hRA := hRA.kept hK (fun _ _ e => e)
            have hRB := hRB.kept hK (fun _ _ e => e)
            refine WL.eff rfl (OP.appendR (by decide) rfl rfl hRB hr16 hN (by omega) (by omega) ?_)
            intro v2 w104 hRn hMv
            obtain ⟨hRA, hD, hc_w104⟩ := append_two hRB hRA (fun k e1 e2 => hD k e2 e1) hRn hMv
            have hD := fun k e1 e2 => hD k e2 e1
            have hRB := hRn
            clear hRn hMv
            obtain ⟨A2, c2, rfl, _⟩ := hRB.sl.form
            have hB8 := hc_w104.at hB8 (fun e => by omega)
            have hB9 := hc_w104.at hB9 (fun e => by omega)
            have hC := hC.then hc_w104 (fun _ _ e => by omega)
            have hz_w104 := hc_w104.size
            refine WL.op (by decide) (FA33_7 rfl) ?_
            refine WL.eff rfl (OP.storeAuth (rs := authS (l.take j) ++ [recS s]) rfl rfl hB9 ?_)
            intro w105 hc_w105 hs_w105 hB9
            have hB8 := hc_w105.at hB8 (fun e => by omega)
            have hC := hC.thenB hc_w105 (by omega)
            have hRA := hRA.kept hc_w105 (fun k e1 e2 => by have := hRA.lt k e1; omega)
            have hRB := hRB.kept hc_w105 (fun k e1 e2 => by have := hRB.lt k e1; omega)
            have hN1 := ans_same hs (by simpa [isSoa] using (show (recS s).type = 6 by assumption))
            have hN2 := auth_snoc hs (by simpa [isSoa] using (show (recS s).type = 6 by assumption))
            refine WL.nil ?_
            refine EW.inNormal ?_
            refine EW.next ?_
            refine CW.region ?_
            refine WL.op (by decide) (R.add rfl rfl (by omega)) ?_
            refine WL.op (by decide) (R.move rfl) ?_
            refine WL.nil ?_
            exact EW.roundK [8, 9, 38, 39, 40] (k - 1) (by omega) ⟨hC, by omega, j + 1, _, A1, c1, A2, c2, by omega, by omega, by omega, rfl, hB8, by rw [hN1, hN2]; first | exact hB9 | simpa using hB9, by rw [hN1]; first | exact hRA | simpa using hRA, by rw [hN2]; first | exact hRB | simpa using hRB, by rw [hN1, hN2]; exact hD⟩
          · skip
            refine WL.next ?_
            refine CW.condF rfl ?_
            refine CW.region ?_
            refine WL.op (by decide) (FA33_6 rfl) ?_
            refine WL.op (by decide) (R.load Tryd.underlying31 rfl rfl (cell_at hB9 rfl)) ?_
            refine WL.op (by decide) (R.loadRB (by first | assumption | rfl) rfl hB12) ?_
            refine WL.eff rfl (OP.buildSliceR (by decide) rfl hr16 ?_)
            intro w106 hc_w106 hs_w106 hN
            have hB8 := hc_w106.at hB8 (fun e => e)
            have hB9 := hc_w106.at hB9 (fun e => e)
            have hB11 := hc_w106.at hB11 (fun e => e)
            have hB12 := hc_w106.at hB12 (fun e => e)
            have hC := hC.trans hc_w106
            have hK := hK.trans hc_w106
            have hz_w106 := hc_w106.size
            have hRA := hRA.kept hK (fun _ _ e => e)
            have hRB := hRB.kept hK (fun _ _ e => e)
            refine WL.eff rfl (OP.appendR (by decide) rfl rfl hRA hr16 hN (by omega) (by omega) ?_)
            intro v2 w107 hRn hMv
            obtain ⟨hRB, hD, hc_w107⟩ := append_two hRA hRB hD hRn hMv
            have hRA := hRn
            clear hRn hMv
            obtain ⟨A1, c1, rfl, _⟩ := hRA.sl.form
            have hB8 := hc_w107.at hB8 (fun e => by omega)
            have hB9 := hc_w107.at hB9 (fun e => by omega)
            have hC := hC.then hc_w107 (fun _ _ e => by omega)
            have hz_w107 := hc_w107.size
            refine WL.op (by decide) (FA33_6 rfl) ?_
            refine WL.eff rfl (OP.storeAns (rs := ansS (l.take j) ++ [recS s]) rfl rfl hB9 ?_)
            intro w108 hc_w108 hs_w108 hB9
            have hB8 := hc_w108.at hB8 (fun e => by omega)
            have hC := hC.thenB hc_w108 (by omega)
            have hRA := hRA.kept hc_w108 (fun k e1 e2 => by have := hRA.lt k e1; omega)
            have hRB := hRB.kept hc_w108 (fun k e1 e2 => by have := hRB.lt k e1; omega)
            have hN1 := ans_snoc hs (by simpa [isSoa] using (show ¬ (recS s).type = 6 by assumption))
            have hN2 := auth_same hs (by simpa [isSoa] using (show ¬ (recS s).type = 6 by assumption))
            refine WL.nil ?_
            refine EW.inNormal ?_
            refine EW.next ?_
            refine CW.region ?_
            refine WL.op (by decide) (R.add rfl rfl (by omega)) ?_
            refine WL.op (by decide) (R.move rfl) ?_
            refine WL.nil ?_
            exact EW.roundK [8, 9, 38, 39, 40] (k - 1) (by omega) ⟨hC, by omega, j + 1, _, A1, c1, A2, c2, by omega, by omega, by omega, rfl, hB8, by rw [hN1, hN2]; first | exact hB9 | simpa using hB9, by rw [hN1]; first | exact hRA | simpa using hRA, by rw [hN2]; first | exact hRB | simpa using hRB, by rw [hN1, hN2]; exact hD⟩
      · skip
        refine WL.next ?_
        refine CW.seq ?_
        refine CW.condF rfl ?_
        refine CW.exit ?_
        refine EW.thenExit ?_
        refine EW.thenExit ?_
        refine EW.inHere ?_
        refine EW.next ?_
        refine CW.rseq ?_
        refine WL.op (by decide) (R.loadM rfl hB9) ?_
        have hRA := hRA.kept hK (fun _ _ e => e)
        have hRB := hRB.kept hK (fun _ _ e => e)
        have hT := take_end (l := l) (j := j) (by omega)
        have hE : withR (msgH id f q) (ansS (l.take j)) (authS (l.take j)) = msgS id f q l := by unfold msgS msgH withR; rw [hT]
        refine WL.eff rfl (OP.storeM rfl rfl hB8 ?_)
        intro w109 hc_w109 hs_w109 hB8
        rw [hE] at hB8
        have hB9 := hc_w109.at hB9 (fun e => by omega)
        have hC := hC.thenB hc_w109 (by omega)
        have hRA := hRA.kept hc_w109 (fun k e1 e2 => by have := hRA.lt k e1; omega)
        have hRB := hRB.kept hc_w109 (fun k e1 e2 => by have := hRB.lt k e1; omega)
        refine WL.next ?_
        refine CW.ret ?_
        exact EW.retC (.inl rfl) rfl rfl (cs := (msgS id f q l).cells (.slice A1 (ansS (l.take j)).length c1) (.slice A2 (authS (l.take j)).length c2)) Tryd.underlying33 rfl sz33 (fun j u hj => cell_at hB8 (by rw [List.getElem?_toArray]; exact hj)) ⟨hC, _, rfl, _, _, rfl, (by have := hRA.sl; rw [hT] at this ⊢; exact this), (by have := hRB.sl; rw [hT] at this ⊢; exact this), fun k e => Nat.le_trans (by omega) (hRA.lt k e).1, fun k e => Nat.le_trans (by omega) (hRB.lt k e).1⟩
end Go.Proofs.YthcpjcgjmdfpjaaDoor
