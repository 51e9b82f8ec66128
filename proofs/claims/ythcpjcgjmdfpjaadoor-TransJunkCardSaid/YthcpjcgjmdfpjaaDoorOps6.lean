/- Masks, remainders, questions compared, a question on its way in memory. -/
import Derived.Test.YthcpjcgjmdfpjaaDoorEnc
namespace Go.Proofs.YthcpjcgjmdfpjaaDoor
open Go Go.RowKit
set_option maxRecDepth 100000
section
variable {l : Env} {w : World} {x y : Operand} {t ty : TypeId} {v : Value} {P : Program}

theorem binOp_mask (t : TypeId) (k : Nat) (hk : k ≤ 62) (n : Int) : binOp .and t (.int .i64 n) (.int .i64 ((2 ^ k - 1 : Nat) : Int)) = pure (.int .i64 (n % ((2 ^ k : Nat) : Int))) := by
  simp only [binOp, Op.intBits, ne_eq, not_true, ite_false]
  have hp : 2 ^ k ≤ 2 ^ 62 := Nat.pow_le_pow_right (by decide) hk
  have h0 : 0 < 2 ^ k := Nat.two_pow_pos k
  have e1 : (BitVec.ofInt IntKind.i64.bits n).toNat = (n % (2 ^ 64 : Nat)).toNat := by
    show (BitVec.ofInt 64 n).toNat = _
    rw [BitVec.toNat_ofInt]
  have e2 : (BitVec.ofInt IntKind.i64.bits ((2 ^ k - 1 : Nat) : Int)).toNat = 2 ^ k - 1 := by
    show (BitVec.ofInt 64 ((2 ^ k - 1 : Nat) : Int)).toNat = _
    rw [BitVec.toNat_ofInt]
    have : ((2 ^ k - 1 : Nat) : Int) % ((2 ^ 64 : Nat) : Int) = ((2 ^ k - 1 : Nat) : Int) := Int.emod_eq_of_lt (by omega) (by omega)
    rw [this, Int.toNat_natCast]
  have e : (BitVec.ofInt IntKind.i64.bits n &&& BitVec.ofInt IntKind.i64.bits ((2 ^ k - 1 : Nat) : Int)).toNat = (n % (2 ^ 64 : Nat)).toNat % 2 ^ k := by
    rw [BitVec.toNat_and, e1, e2]
    exact Nat.and_two_pow_sub_one_eq_mod _ k
  have e3 : (((n % (2 ^ 64 : Nat)).toNat % 2 ^ k : Nat) : Int) = n % ((2 ^ k : Nat) : Int) := by
    rw [Int.natCast_emod, Int.toNat_of_nonneg (Int.emod_nonneg _ (by decide))]
    exact Int.emod_emod_of_dvd _ (by
      have : (2 : Nat) ^ k ∣ 2 ^ 64 := Nat.pow_dvd_pow 2 (by omega)
      exact Int.natCast_dvd_natCast.2 this)
  rw [e, e3]
  have h1 : 0 ≤ n % ((2 ^ k : Nat) : Int) := Int.emod_nonneg _ (by omega)
  have h2 : n % ((2 ^ k : Nat) : Int) < ((2 ^ k : Nat) : Int) := Int.emod_lt_of_pos _ (by omega)
  rw [IntWalk.i64_in _ (by omega)]
theorem R.mask (k : Nat) {n m q : Int} (hx : ev l x = some (.int .i64 n)) (hy : ev l y = some (.int .i64 m)) (hk : k ≤ 62) (hm : m = ((2 ^ k - 1 : Nat) : Int)) (hq : q = ((2 ^ k : Nat) : Int)) : Runs P l (.binOp .and t x y ty) w (.int .i64 (n % q)) w := by
  subst hm hq
  exact R.bin hx hy (binOp_mask t k hk n)
theorem R.conv342 {a : Int} (hx : ev l x = some (.int .i64 a)) : Runs Tryd.prog l (.convert 3 42 x) w (.int .u64 (a % 18446744073709551616)) w :=
  R.convInt (P := Tryd.prog) Tryd.underlying3 Tryd.underlying42 hx (IntKind.wrap_u64 a)
theorem R.conv423 {a : Int} (hx : ev l x = some (.int .u64 a)) (h : 0 ≤ a ∧ a < 9223372036854775808) : Runs Tryd.prog l (.convert 42 3 x) w (.int .i64 a) w :=
  R.convInt (P := Tryd.prog) Tryd.underlying42 Tryd.underlying3 hx (IntWalk.i64_in _ (by omega))
theorem R.shrU {a b : Int} (hx : ev l x = some (.int .u64 a)) (hy : ev l y = some (.int .u64 b)) (h : 0 ≤ b ∧ b ≤ 64) : Runs P l (.binOp .shr t x y ty) w (.int .u64 (a / 2 ^ b.toNat)) w :=
  R.binS hx hy (by
    have h1 : ¬ b < 0 := by omega
    have h2 : min b.toNat IntKind.u64.bits = b.toNat := by simp only [IntKind.bits]; omega
    have h3 : a.fdiv (2 ^ b.toNat) = a / 2 ^ b.toNat := Int.fdiv_eq_ediv_of_nonneg _ (Int.le_of_lt (Int.pow_pos (by decide)))
    simp only [binOp, Op.shift, h1, if_false, h2, h3])
theorem R.rem {a b : Int} (hx : ev l x = some (.int .i64 a)) (hy : ev l y = some (.int .i64 b)) (h : b ≠ 0) : Runs P l (.binOp .rem t x y ty) w (.int .i64 (a.tmod b)) w :=
  R.bin hx hy (by simp [binOp, Op.intDiv, h])
theorem R.remN {a b : Int} (hx : ev l x = some (.int .i64 a)) (hy : ev l y = some (.int .i64 b)) (h : b ≠ 0) (ha : 0 ≤ a) : Runs P l (.binOp .rem t x y ty) w (.int .i64 (a % b)) w := by
  have := R.rem (P := P) (w := w) (t := t) (ty := ty) hx hy h
  rwa [Int.tmod_eq_emod_of_nonneg ha] at this

/-- '==' of questions. -/
theorem run_equalIn_q (d : Nat) (a b : List UInt8) (m n : Int) (w : World) : (Op.equalIn (d + 2) 25 (.agg #[sv a, .int .i64 m]) (.agg #[sv b, .int .i64 n])).run Tryd.prog w = .ok (decide (a = b ∧ m = n)) w := by
  rw [run_equalIn_struct w (d + 1) 25 _ _ Tryd.underlying25 (by kernel_rfl)]
  have hf : (Tryd.prog.fieldsOf 25).toList = [{ name := "Name", type := 9, offset := 0, embedded := false, tag := "", pkgPath := "", byteOffset := 0 },
        { name := "Type", type := 3, offset := 1, embedded := false, tag := "", pkgPath := "", byteOffset := 16 }] := by kernel_rfl
  rw [hf]
  rw [eqFields_cons (by decide) (run_part1 Tryd.underlying9 rfl (v := sv a) rfl w) (run_part1 Tryd.underlying9 rfl (v := sv b) rfl w) (run_equalIn_str d a b w)]
  by_cases h1 : a = b
  · rw [decide_eq_true h1, if_pos rfl, eqFields_cons (by decide) (run_part1 Tryd.underlying3 rfl (v := .int .i64 m) rfl w) (run_part1 Tryd.underlying3 rfl (v := .int .i64 n) rfl w) (run_equalIn_i64 d m n w), eqFields_nil]
    by_cases h2 : m = n <;> simp [h1, h2]
  · rw [decide_eq_false h1, if_neg (by simp)]
    simp [h1]
theorem R.eql25 {a b : List UInt8} {m n : Int} {c : Bool} (hx : ev l x = some (.agg #[sv a, .int .i64 m])) (hy : ev l y = some (.agg #[sv b, .int .i64 n])) (h : decide (a = b ∧ m = n) = c) : Runs Tryd.prog l (.binOp .eql 25 x y ty) w (.bool c) w := by
  subst h
  exact R.binAgg (by kernel_rfl) hx hy (by rw [run_eql_struct, run_equalIn_q 9998]; rfl)
theorem R.neq25 {a b : List UInt8} {m n : Int} {c : Bool} (hx : ev l x = some (.agg #[sv a, .int .i64 m])) (hy : ev l y = some (.agg #[sv b, .int .i64 n])) (h : (!decide (a = b ∧ m = n)) = c) : Runs Tryd.prog l (.binOp .neq 25 x y ty) w (.bool c) w := by
  subst h
  exact R.binAgg (by kernel_rfl) hx hy (by rw [run_neq_struct, run_equalIn_q 9998]; rfl)
theorem R.neq57 {a b : Rec} {c : Bool} (ha : a.addr.length = 16) (hb : b.addr.length = 16) (hx : ev l x = some a.val) (hy : ev l y = some b.val) (h : (!decide (a = b)) = c) : Runs Tryd.prog l (.binOp .neq 57 x y ty) w (.bool c) w := by
  subst h
  unfold Rec.val at hx hy
  refine R.binAgg (by kernel_rfl) hx hy ?_
  have := run_equalIn_rec 9997 a b ha hb w
  unfold Rec.val at this
  rw [run_neq_struct, this]; rfl
end

/-- Three that may come up: any first. -/
theorem AH.three {P : Program} {Q : Exit → Act → World → Prop} {n : Nat} {l : Env} {w : World} {ops : Array Oper} {fuel : Nat} {listed : Array Bool} {S : World → Prop} (i j k : Nat) {oi oj ok : Oper} (hr : Region.ready .any ops listed = [i, j, k]) (hi : ops[i]? = some oi) (hj : ops[j]? = some oj) (hk : ops[k]? = some ok) (hgi : oi.guard = none) (hgj : oj.guard = none) (hgk : ok.guard = none)
    (h1 : OP P Q oi n l w (fun l' w' => S w' ∧ AH P ops Q S fuel (listed.setIfInBounds i true) n l' w'))
    (h2 : OP P Q oj n l w (fun l' w' => S w' ∧ AH P ops Q S fuel (listed.setIfInBounds j true) n l' w'))
    (h3 : OP P Q ok n l w (fun l' w' => S w' ∧ AH P ops Q S fuel (listed.setIfInBounds k true) n l' w')) : AH P ops Q S (fuel + 1) listed n l w := by
  intro a ha
  refine wpAnyH_all hr (by simp) ?_
  intro i' hi'
  rcases List.mem_cons.1 hi' with rfl | hi'
  · unfold wpOp
    simp only [hi, Region.wanted, hgi, if_true]
    exact .inl (h1 a ha _ (fun l' w' hM a' ha' => ⟨hM.1, hM.2 a' ha'⟩))
  · rcases List.mem_cons.1 hi' with rfl | hi'
    · unfold wpOp
      simp only [hj, Region.wanted, hgj, if_true]
      exact .inl (h2 a ha _ (fun l' w' hM a' ha' => ⟨hM.1, hM.2 a' ha'⟩))
    · obtain rfl := List.mem_singleton.1 hi'
      unfold wpOp
      simp only [hk, Region.wanted, hgk, if_true]
      exact .inl (h3 a ha _ (fun l' w' hM a' ha' => ⟨hM.1, hM.2 a' ha'⟩))
/-- A question on its way. -/
structure Tr where
  qname : List UInt8
  qtype : Int
  link : Int
  gen : Int
  to : List UInt8
  id : Int
  port : Int
  stream : Bool
  group : Bool
  upto : Int
def Tr.cells (t : Tr) : List Value := sv t.qname :: .int .i64 t.qtype :: .int .i64 t.link :: .int .i64 t.gen :: (t.to.map u8v ++ [.int .i64 t.id, .int .i64 t.port, .bool t.stream, .bool t.group, .int .i64 t.upto])
def Tr.val (t : Tr) : Value := .agg t.cells.toArray
theorem Tr.length {t : Tr} (h : t.to.length = 16) : t.cells.length = 25 := by simp [Tr.cells, h]
theorem Tr.tail {t : Tr} (h : t.to.length = 16) (j : Nat) {u : Value} (hj : ([.int .i64 t.id, .int .i64 t.port, .bool t.stream, .bool t.group, .int .i64 t.upto] : List Value)[j]? = some u) : t.cells.toArray[20 + j]? = some u := by
  rw [List.getElem?_toArray, Nat.add_comm]
  show (t.to.map u8v ++ _)[j + 16]? = _
  rw [List.getElem?_append_right (by simp [h])]
  simp [h, hj]
theorem Tr.at20 {t : Tr} (h : t.to.length = 16) : t.cells.toArray[20]? = some (.int .i64 t.id) := Tr.tail h 0 rfl
theorem Tr.at21 {t : Tr} (h : t.to.length = 16) : t.cells.toArray[21]? = some (.int .i64 t.port) := Tr.tail h 1 rfl
theorem Tr.at22 {t : Tr} (h : t.to.length = 16) : t.cells.toArray[22]? = some (.bool t.stream) := Tr.tail h 2 rfl
theorem Tr.at23 {t : Tr} (h : t.to.length = 16) : t.cells.toArray[23]? = some (.bool t.group) := Tr.tail h 3 rfl
theorem Tr.at24 {t : Tr} (h : t.to.length = 16) : t.cells.toArray[24]? = some (.int .i64 t.upto) := Tr.tail h 4 rfl
theorem Tr.atTo {t : Tr} {j : Nat} {u : Value} (hj : (t.to.map u8v)[j]? = some u) : t.cells.toArray[4 + j]? = some u := by
  have hlt := (List.getElem?_eq_some_iff.1 hj).1
  rw [Nat.add_comm, List.getElem?_toArray]
  show (t.to.map u8v ++ _)[j]? = _
  rw [List.getElem?_append_left hlt]; exact hj
theorem Tr.allOne (t : Tr) : t.cells.toArray.all (·.oneCell') = true := by
  rw [Array.all_eq_true_iff_forall_mem]
  intro u hu
  simp only [Tr.cells, List.mem_toArray, List.mem_cons, List.mem_append, List.mem_map, List.not_mem_nil, or_false] at hu
  rcases hu with rfl | rfl | rfl | rfl | ⟨c, _, rfl⟩ | rfl | rfl | rfl | rfl | rfl <;> rfl
end Go.Proofs.YthcpjcgjmdfpjaaDoor
