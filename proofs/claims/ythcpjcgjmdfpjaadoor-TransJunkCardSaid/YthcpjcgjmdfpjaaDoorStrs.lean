/- Strings, slices of strings, conversions; tests that part the way. -/
import Derived.Test.YthcpjcgjmdfpjaaDoorFacts
namespace Go.Proofs.YthcpjcgjmdfpjaaDoor
open Go Go.RowKit
set_option maxRecDepth 100000

section
variable {P : Program} {ops : Array Oper} {Q : Exit → Act → World → Prop} {rest : List Oper} {n : Nat} {l : Env} {w w' : World} {o : Oper} {v u : Value} {M : Env → World → Prop}
variable {q : Op} {t e ty : TypeId} {pos : String} {af : Array Edge} {d : Nat} {x y z : Operand} {s r : List UInt8}

/-! ### Tests that part the way -/
section split
variable {k : IntKind} {a b : Int}
theorem WL.lssS (hdn : d < n) (hx : ev l x = some (.int k a)) (hy : ev l y = some (.int k b)) (hT : a < b → WL P ops Q rest n ((d, .bool true) :: l) w) (hF : ¬ a < b → WL P ops Q rest n ((d, .bool false) :: l) w) :
    WL P ops Q (⟨some d, .binOp .lss t x y ty, e, pos, af, none⟩ :: rest) n l w := by
  by_cases h : a < b
  · exact WL.op hdn (R.lss hx hy (decide_eq_true h)) (hT h)
  · exact WL.op hdn (R.lss hx hy (decide_eq_false h)) (hF h)
theorem WL.leqS (hdn : d < n) (hx : ev l x = some (.int k a)) (hy : ev l y = some (.int k b)) (hT : a ≤ b → WL P ops Q rest n ((d, .bool true) :: l) w) (hF : ¬ a ≤ b → WL P ops Q rest n ((d, .bool false) :: l) w) :
    WL P ops Q (⟨some d, .binOp .leq t x y ty, e, pos, af, none⟩ :: rest) n l w := by
  by_cases h : a ≤ b
  · exact WL.op hdn (R.leq hx hy (decide_eq_true h)) (hT h)
  · exact WL.op hdn (R.leq hx hy (decide_eq_false h)) (hF h)
theorem WL.gtrS (hdn : d < n) (hx : ev l x = some (.int k a)) (hy : ev l y = some (.int k b)) (hT : a > b → WL P ops Q rest n ((d, .bool true) :: l) w) (hF : ¬ a > b → WL P ops Q rest n ((d, .bool false) :: l) w) :
    WL P ops Q (⟨some d, .binOp .gtr t x y ty, e, pos, af, none⟩ :: rest) n l w := by
  by_cases h : a > b
  · exact WL.op hdn (R.gtr hx hy (decide_eq_true h)) (hT h)
  · exact WL.op hdn (R.gtr hx hy (decide_eq_false h)) (hF h)
theorem WL.geqS (hdn : d < n) (hx : ev l x = some (.int k a)) (hy : ev l y = some (.int k b)) (hT : a ≥ b → WL P ops Q rest n ((d, .bool true) :: l) w) (hF : ¬ a ≥ b → WL P ops Q rest n ((d, .bool false) :: l) w) :
    WL P ops Q (⟨some d, .binOp .geq t x y ty, e, pos, af, none⟩ :: rest) n l w := by
  by_cases h : a ≥ b
  · exact WL.op hdn (R.geq hx hy (decide_eq_true h)) (hT h)
  · exact WL.op hdn (R.geq hx hy (decide_eq_false h)) (hF h)
theorem WL.eqlS (hdn : d < n) (hx : ev l x = some (.int k a)) (hy : ev l y = some (.int k b)) (hT : a = b → WL P ops Q rest n ((d, .bool true) :: l) w) (hF : ¬ a = b → WL P ops Q rest n ((d, .bool false) :: l) w) :
    WL P ops Q (⟨some d, .binOp .eql t x y ty, e, pos, af, none⟩ :: rest) n l w := by
  by_cases h : a = b
  · exact WL.op hdn (R.eql hx hy (decide_eq_true h)) (hT h)
  · exact WL.op hdn (R.eql hx hy (decide_eq_false h)) (hF h)
theorem WL.neqS (hdn : d < n) (hx : ev l x = some (.int k a)) (hy : ev l y = some (.int k b)) (hT : ¬ a = b → WL P ops Q rest n ((d, .bool true) :: l) w) (hF : a = b → WL P ops Q rest n ((d, .bool false) :: l) w) :
    WL P ops Q (⟨some d, .binOp .neq t x y ty, e, pos, af, none⟩ :: rest) n l w := by
  by_cases h : a = b
  · exact WL.op hdn (R.neq hx hy (decide_eq_false (fun hn => hn h))) (hF h)
  · exact WL.op hdn (R.neq hx hy (decide_eq_true h)) (hT h)

variable {g : Nat × Bool} {j sl : Nat} {gb want : Bool}
theorem WL.gsplit (c : Prop) [Decidable c] (hdn : d < n) (hj : (ops[j]?).bind (·.dst) = some sl) (hs : Env.get l sl = some (.bool gb)) (hne : (gb == want) = true)
    (hr : Runs P l q w (.bool (decide c)) w) (hT : c → WL P ops Q rest n ((d, .bool true) :: l) w) (hF : ¬ c → WL P ops Q rest n ((d, .bool false) :: l) w) :
    WL P ops Q (⟨some d, q, e, pos, af, some (j, want)⟩ :: rest) n l w := by
  by_cases h : c
  · rw [decide_eq_true h] at hr; exact WL.gop hdn hj hs hne hr (hT h)
  · rw [decide_eq_false h] at hr; exact WL.gop hdn hj hs hne hr (hF h)
theorem WL.split (c : Prop) [Decidable c] (hdn : d < n) (hr : Runs P l q w (.bool (decide c)) w) (hT : c → WL P ops Q rest n ((d, .bool true) :: l) w) (hF : ¬ c → WL P ops Q rest n ((d, .bool false) :: l) w) :
    WL P ops Q (⟨some d, q, e, pos, af, none⟩ :: rest) n l w := by
  by_cases h : c
  · rw [decide_eq_true h] at hr; exact WL.op hdn hr (hT h)
  · rw [decide_eq_false h] at hr; exact WL.op hdn hr (hF h)
theorem R.lssD (hx : ev l x = some (.int k a)) (hy : ev l y = some (.int k b)) : Runs P l (.binOp .lss t x y ty) w (.bool (decide (a < b))) w := R.lss hx hy rfl
theorem R.leqD (hx : ev l x = some (.int k a)) (hy : ev l y = some (.int k b)) : Runs P l (.binOp .leq t x y ty) w (.bool (decide (a ≤ b))) w := R.leq hx hy rfl
theorem R.gtrD (hx : ev l x = some (.int k a)) (hy : ev l y = some (.int k b)) : Runs P l (.binOp .gtr t x y ty) w (.bool (decide (a > b))) w := R.gtr hx hy rfl
theorem R.geqD (hx : ev l x = some (.int k a)) (hy : ev l y = some (.int k b)) : Runs P l (.binOp .geq t x y ty) w (.bool (decide (a ≥ b))) w := R.geq hx hy rfl
theorem R.eqlD (hx : ev l x = some (.int k a)) (hy : ev l y = some (.int k b)) : Runs P l (.binOp .eql t x y ty) w (.bool (decide (a = b))) w := R.eql hx hy rfl
theorem R.neqD (hx : ev l x = some (.int k a)) (hy : ev l y = some (.int k b)) : Runs P l (.binOp .neq t x y ty) w (.bool (decide (¬ a = b))) w := R.neq hx hy rfl
end split

/-! ### Strings -/
theorem sv_size (s : List UInt8) : (⟨s.toArray⟩ : ByteArray).size = s.length := by simp [ByteArray.size]
theorem sv_inj {a b : List UInt8} (h : sv a = sv b) : a = b := by
  unfold sv at h; injection h with h; injection h with h; simpa using congrArg Array.toList h
theorem R.lenS {cs : Array TypeId} (hc : cs[0]? = some 9) (hx : ev l x = some (sv s)) : Runs Tryd.prog l (.call { callee := .builtin .len, args := #[x], argTypes := cs }) w (.int .i64 s.length) w := by
  have := R.lenStr (P := Tryd.prog) (w := w) hc Tryd.underlying9 hx
  rwa [sv_size] at this
theorem R.indexS {i : Nat} {k : IntKind} {j : Int} {c : UInt8} (hx : ev l x = some (sv s)) (hy : ev l y = some (.int k j)) (hj : j = (i : Int)) (hc : s[i]? = some c) : Runs Tryd.prog l (.index 9 x y) w (u8v c) w := fun r _ _ _ _ _ he => by
  subst hj
  have h1 : (⟨s.toArray⟩ : ByteArray)[i]? = some c := by
    have hlt : i < s.length := (List.getElem?_eq_some_iff.1 hc).1
    have hv := (List.getElem?_eq_some_iff.1 hc).2
    rw [getElem?_pos _ _ (by rw [sv_size]; exact hlt)]
    congr 1
  unfold sv at hx
  simp only [execOp, he x _ hx, he y _ hy, Instr.index, asIntOf, Sem.run_bind, Sem.run_pure, Result.andThen_ok, run_underlying Tryd.underlying9]
  have h0 : (0 : Int) ≤ (i : Int) := by omega
  simp only [h0, if_true, Int.toNat_natCast, h1]
  rfl
theorem R.binStr {op : BinOp} {a b : List UInt8} (hx : ev l x = some (sv a)) (hy : ev l y = some (sv b)) (h : (Op.stringOp op ⟨a.toArray⟩ ⟨b.toArray⟩) = pure v) (hop : op ≠ .shl ∧ op ≠ .shr := by decide) : Runs P l (.binOp op t x y ty) w v w := fun r _ _ _ _ _ he => by
  unfold sv at hx hy
  simp only [execOp, he x _ hx, he y _ hy, eqGuard]
  have : binOp op t (.string ⟨a.toArray⟩) (.string ⟨b.toArray⟩) = pure v := by rw [← h]; cases op <;> rfl
  rw [this]
  cases op <;> rfl
theorem R.eqlStr {a b : List UInt8} (hx : ev l x = some (sv a)) (hy : ev l y = some (sv b)) : Runs P l (.binOp .eql t x y ty) w (.bool (decide (a = b))) w :=
  R.binStr hx hy (by
    simp only [Op.stringOp, ByteArray.toList_mk]
    have : (a == b) = decide (a = b) := by by_cases h : a = b <;> simp [h]
    rw [this])
theorem R.neqStr {a b : List UInt8} (hx : ev l x = some (sv a)) (hy : ev l y = some (sv b)) : Runs P l (.binOp .neq t x y ty) w (.bool (decide (¬ a = b))) w :=
  R.binStr hx hy (by
    simp only [Op.stringOp, ByteArray.toList_mk]
    have : (!(a == b)) = decide (¬ a = b) := by by_cases h : a = b <;> simp [h]
    rw [this])
theorem R.addStr {a b : List UInt8} (hx : ev l x = some (sv a)) (hy : ev l y = some (sv b)) (h : a.length + b.length ≤ 9223372036854775807) : Runs P l (.binOp .add t x y ty) w (sv (a ++ b)) w :=
  R.binStr hx hy (by
    have h1 : ¬ ((((⟨a.toArray⟩ : ByteArray).size + (⟨b.toArray⟩ : ByteArray).size : Nat) : Int) > IntKind.i64.max) := by
      rw [sv_size, sv_size]; simp only [IntKind.max, IntKind.signed, IntKind.bits]; simp; omega
    simp only [Op.stringOp, h1, if_false, ByteArray.mk_append_mk]
    rfl)
theorem R.sliceS {lo hi : Nat} {k1 k2 : IntKind} {a b : Int} (hx : ev l x = some (sv s)) (ha : ev l y = some (.int k1 a)) (hb : ev l z = some (.int k2 b)) (hea : a = (lo : Int)) (heb : b = (hi : Int)) (h1 : lo ≤ hi) (h2 : hi ≤ s.length) :
    Runs Tryd.prog l (.slice 9 x (some y) (some z) none) w (sv ((s.take hi).drop lo)) w := fun r _ _ _ _ _ he => by
  subst hea heb
  unfold sv at hx
  have hb1 : (Instr.sliceBound (.int k2 (hi : Int)) s.length .sliceAlen).run Tryd.prog w = .ok hi w := by
    have := run_sliceBound (P := Tryd.prog) (w := w) k2 (hi : Int) s.length .sliceAlen (by omega) (by omega)
    simpa using this
  have hb2 : (Instr.sliceBound (.int k1 (lo : Int)) hi .sliceB).run Tryd.prog w = .ok lo w := by
    have := run_sliceBound (P := Tryd.prog) (w := w) k1 (lo : Int) hi .sliceB (by omega) (by omega)
    simpa using this
  have hbs : (Instr.sliceBounds false s.length s.length (some (.int k1 (lo : Int))) (some (.int k2 (hi : Int))) none).run Tryd.prog w = .ok (lo, hi, s.length) w := by
    simp [Instr.sliceBounds, hb1, hb2]
  have hsl : (Instr.slice 9 (.string ⟨s.toArray⟩) (some (.int k1 (lo : Int))) (some (.int k2 (hi : Int))) none).run Tryd.prog w = .ok (.string ((⟨s.toArray⟩ : ByteArray).extract lo hi)) w := by
    simp only [Instr.slice, Sem.run_bind, run_underlying Tryd.underlying9, Result.andThen_ok, Option.isSome_none, Bool.false_eq_true, if_false, sv_size, hbs, Sem.run_pure]
  have hext : (⟨s.toArray⟩ : ByteArray).extract lo hi = ⟨((s.take hi).drop lo).toArray⟩ := by
    apply ByteArray.ext
    simp only [ByteArray.data_extract]
    apply Array.ext'
    rw [List.drop_take]
    simp [List.extract]
  rw [hext] at hsl
  have hat : (Instr.sliceAt 9 (.string ⟨s.toArray⟩) (some (.int k1 (lo : Int))) (some (.int k2 (hi : Int))) none).run Tryd.prog w = .ok (sv ((s.take hi).drop lo)) w := by
    have := run_sliceAt_string (P := Tryd.prog) (w := w) 9 (.string ⟨s.toArray⟩) (some (.int k1 (lo : Int))) (some (.int k2 (hi : Int))) none Tryd.underlying9
    exact this.trans hsl
  simp only [execOp, he x _ hx, Option.map_some, Option.map_none, he y _ ha, he z _ hb, Sem.run_bind, hat, Result.andThen_ok]
  rfl

/-! ### Bytes and strings -/
theorem OP.bytesOf (hdn : d < n) (hx : ev l x = some (sv s))
    (h : ∀ w' (cap : Nat) (zs : Array Value) (fr : Nat × Nat), Chg (fun _ => False) w w' → w'.heap.size = w.heap.size + 1 → s.length ≤ cap → fr = (cap, cap + 1) → zs.size = cap → (∀ (j : Nat) (c : UInt8), s[j]? = some c → zs[j]? = some (u8v c)) →
      w'.heap[w.heap.size]? = some (.cells zs 5 fr) → M ((d, .slice (some ⟨w.heap.size, 0, none⟩) s.length cap) :: l) w') :
    OP Tryd.prog Q ⟨some d, .convert 9 36 x, t, pos, af, none⟩ n l w M := by
  unfold sv at hx
  have hr := run_bytes_of_string (P := Tryd.prog) w 9 36 5 ⟨s.toArray⟩ Tryd.underlying9 Tryd.underlying36 Tryd.underlying5
  rw [sv_size] at hr
  have hge := grownCap_ge w s.length 0 5
  have hsz : (bytesRow ⟨s.toArray⟩ (grownCap w s.length 0 5)).size = grownCap w s.length 0 5 := by
    simp [bytesRow, ByteArray.size]; omega
  refine OP.val hdn (fun r _ _ _ _ _ he => by
    simp only [execOp, he x _ hx, Sem.run_bind, hr, Result.andThen_ok]; rfl) (h _ (grownCap w s.length 0 5) (bytesRow ⟨s.toArray⟩ (grownCap w s.length 0 5)) _ ?_ (by simp) hge (by rw [hsz]) hsz ?_ (heap_alloc_new w.drew _))
  · exact ⟨rfl, rfl, rfl, by simp, fun k hk _ => Below.heap_alloc w.drew _ k hk⟩
  · intro j c hj
    have hlt : j < s.length := (List.getElem?_eq_some_iff.1 hj).1
    simp only [bytesRow]
    rw [Array.getElem?_append_left (by simp; exact hlt)]
    simp [hj, u8v]

theorem R.strOf {g ofs m cap : Nat} (hx : ev l x = some (.slice (some ⟨g, ofs, none⟩) m cap)) (hm : s.length = m) (hc : ∀ (j : Nat) (c : UInt8), s[j]? = some c → w.cell? ⟨g, ofs + j, none⟩ = some (u8v c)) :
    Runs Tryd.prog l (.convert 36 9 x) w (sv s) w := fun r _ _ _ _ _ he => by
  have := run_convert_bytes_arg (P := Tryd.prog) w 36 5 Tryd.underlying36 Tryd.underlying5 g ofs m cap (s.map fun b => (b.toNat : Int)) (by simpa using hm) (by
    intro i hi
    have hlt : i < s.length := by omega
    rw [hc i s[i] (List.getElem?_eq_getElem hlt)]
    simp [u8v, List.getD, hlt]) 9 Tryd.underlying9
  have e1 : strOfNums (s.map fun b => (b.toNat : Int)) = ⟨s.toArray⟩ := by
    apply ByteArray.ext
    apply Array.ext'
    rw [strOfNums_data, List.map_map]
    have : ((fun n : Int => UInt8.ofNat n.toNat) ∘ fun b : UInt8 => (b.toNat : Int)) = id := by
      funext b; simp
    rw [this]; simp
  rw [e1] at this
  simp only [execOp, he x _ hx, Sem.run_bind, this, Result.andThen_ok]
  rfl

/-! ### Slices of strings -/
def SBuf (w : World) (base : Nat) (v : Value) (ls : List (List UInt8)) : Prop := w.ownsRow base 9 1 v ls.length (ls.map sv)
theorem SBuf.kept {base : Nat} {ls : List (List UInt8)} {S : Nat → Prop} (h : SBuf w base v ls) (hc : Chg S w w') (hn : ∀ k, v.ownBlock = some k → ¬ S k) : SBuf w' base v ls := by
  refine ⟨h.1, ?_⟩
  rcases h.2 with h2 | ⟨g, cap, cur, rfl, hb, hg, r⟩
  · exact .inl h2
  · exact .inr ⟨g, cap, cur, rfl, hb, hc.at hg (hn g rfl), r⟩
theorem SBuf.lt {base : Nat} {ls : List (List UInt8)} (h : SBuf w base v ls) : ∀ k, v.ownBlock = some k → base ≤ k ∧ k < w.heap.size := World.ownsRow.lt h
/-- What is in a slice of strings. -/
theorem SBuf.open {base : Nat} {ls : List (List UInt8)} (h : SBuf w base v ls) : (v = .slice none 0 0 ∧ ls = []) ∨ ∃ g cap, v = .slice (some ⟨g, 0, none⟩) ls.length cap ∧ base ≤ g ∧ g < w.heap.size ∧ ls.length ≤ cap ∧ ∀ j s, ls[j]? = some s → w.cell? ⟨g, j, none⟩ = some (sv s) := by
  have hcells := h
  rcases h.2 with ⟨h2, h0⟩ | ⟨g, cap, cur, rfl, hb, hg, hle, r⟩
  · exact .inl ⟨h2, List.eq_nil_of_length_eq_zero h0⟩
  · refine .inr ⟨g, cap, rfl, hb, (Array.getElem?_eq_some_iff.1 hg).1, hle, fun j s hj => ?_⟩
    have := World.ownsRow.cells hcells (g := g) rfl j (sv s) (by simp [hj])
    rwa [Addr.add_none, Nat.zero_add] at this

theorem buildSlice_str (s : List UInt8) (w : World) : (Instr.buildSlice 80 1 #[(0, sv s)]).run Tryd.prog w = .ok (.slice (some ⟨w.heap.size, 0, none⟩) 1 1) (w.alloc (.cells #[sv s] 9)) := by unfold sv; kernel_rfl
theorem OP.buildSliceS {M : Env → World → Prop} (hdn : d < n) (hx : ev l x = some (sv s))
    (h : ∀ w', Chg (fun _ => False) w w' → w'.heap.size = w.heap.size + 1 → w'.heap[w.heap.size]? = some (.cells #[sv s] 9 (0, 0)) → M ((d, .slice (some ⟨w.heap.size, 0, none⟩) 1 1) :: l) w') :
    OP Tryd.prog Q ⟨some d, .buildSlice 80 1 #[(0, x)], t, pos, af, none⟩ n l w M :=
  OP.buildSlice (parts := [(0, x)]) (vals := [(0, sv s)]) hdn (by simp [evp, hx]) (buildSlice_str s) h

theorem OP.appendS {base g c : Nat} {ls : List (List UInt8)} (hdn : d < n) (hx : ev l x = some v) (hy : ev l y = some (.slice (some ⟨g, 0, none⟩) 1 c)) (hB : SBuf w base v ls) (hg : w.heap[g]? = some (.cells #[sv s] 9 (0, 0)))
    (hl : (ls.length + 1) * 16 ≤ 140737488355328) (hb : base ≤ w.heap.size)
    (h : ∀ v' w', SBuf w' base v' (ls ++ [s]) → Moved w w' v v' → M ((d, v') :: l) w') :
    OP Tryd.prog Q ⟨some d, .call { callee := .builtin .append, args := #[x, y], argTypes := #[80, 80] }, t, pos, af, none⟩ n l w M := by
  obtain ⟨i0, hi, hz0, hz1, hz2⟩ := info_parts Tryd.info9
  have hnews : ∀ j u, ([sv s])[j]? = some u → w.cell? ((⟨g, 0, none⟩ : Addr).add j) = some u := by
    intro j u hj
    rw [Addr.add_none, Nat.zero_add]
    refine cell_at hg ?_
    match j, hj with
    | 0, hj => simpa using hj
  obtain ⟨v', w', hr, h2, h3, _, h5⟩ := run_append_own_at (P := Tryd.prog) w base 80 t 9 i0 (.string ⟨#[]⟩) 1 16 Tryd.underlying80 hi hz0 hz1 hz2 rfl (by decide) v ls.length (ls.map sv) hB ⟨g, 0, none⟩ 1 c [sv s] (by simp) hnews (by simp [sv, Value.oneCell']) (by unfold maxLen; omega) (by omega) hb
  refine OP.val (v := v') (w' := w') hdn (fun r _ _ _ _ _ he => ?_) (h v' w' ?_ ⟨h3, h5.imp id (fun e => ⟨_, e, Nat.le_refl _⟩)⟩)
  · simp only [execOp, resolve, invoke, builtin, Sem.run_bind, Sem.run_pure, Result.andThen_ok, List.map_toArray, List.map_cons, List.map_nil, he x _ hx, he y _ hy]
    have e1 : ∀ ty, (Builtin.append_ #[80, 80] ty #[v, .slice (some ⟨g, 0, none⟩) 1 c]).run Tryd.prog w = (Builtin.append_ #[80, 80] t #[v, .slice (some ⟨g, 0, none⟩) 1 c]).run Tryd.prog w := fun _ => rfl
    rw [e1, hr]; rfl
  · unfold SBuf; rw [List.length_append, List.map_append]; exact h2

/-- 'x[lo:hi]' of a slice in memory. -/
theorem R.sliceSl {elem g ofs m cap lo hi : Nat} {k1 k2 : IntKind} {a b : Int} (ht : Tryd.prog.underlying t = some (.slice elem)) (hs : (Tryd.prog.info? elem).map (·.size) = some 1) (hx : ev l x = some (.slice (some ⟨g, ofs, none⟩) m cap)) (ha : ev l y = some (.int k1 a)) (hb : ev l z = some (.int k2 b))
    (hea : a = (lo : Int)) (heb : b = (hi : Int)) (h1 : lo ≤ hi) (h2 : hi ≤ cap) :
    Runs Tryd.prog l (.slice t x (some y) (some z) none) w (.slice (some (if cap = lo then ⟨g, ofs, none⟩ else ⟨g, ofs + lo, none⟩)) (hi - lo) (cap - lo)) w := fun r _ _ _ _ _ he => by
  subst hea heb
  obtain ⟨inf, hi', hz⟩ := inf_of hs
  have hb1 : (Instr.sliceBound (.int k2 (hi : Int)) cap .sliceAcap).run Tryd.prog w = .ok hi w := by
    have := run_sliceBound (P := Tryd.prog) (w := w) k2 (hi : Int) cap .sliceAcap (by omega) (by omega)
    simpa using this
  have hb2 : (Instr.sliceBound (.int k1 (lo : Int)) hi .sliceB).run Tryd.prog w = .ok lo w := by
    have := run_sliceBound (P := Tryd.prog) (w := w) k1 (lo : Int) hi .sliceB (by omega) (by omega)
    simpa using this
  have hbs : (Instr.sliceBounds true m cap (some (.int k1 (lo : Int))) (some (.int k2 (hi : Int))) none).run Tryd.prog w = .ok (lo, hi, cap) w := by
    simp [Instr.sliceBounds, hb1, hb2]
  have hat : (Instr.sliceAt t (.slice (some ⟨g, ofs, none⟩) m cap) (some (.int k1 (lo : Int))) (some (.int k2 (hi : Int))) none).run Tryd.prog w = .ok (.slice (some (if cap = lo then ⟨g, ofs, none⟩ else ⟨g, ofs + lo, none⟩)) (hi - lo) (cap - lo)) w := by
    simp only [Instr.sliceAt, Instr.slice, Sem.run_bind, run_underlying ht, Result.andThen_ok, hbs, sizeOf, typeInfo, run_program, hi', hz, Nat.mul_one, Sem.run_pure]
    by_cases hq : cap = lo <;> simp [hq, Addr.add_none]
  simp only [execOp, he x _ hx, Option.map_some, Option.map_none, he y _ ha, he z _ hb, Sem.run_bind, hat, Result.andThen_ok]
  rfl
/-- 'x[lo:]' of a slice in memory. -/
theorem R.sliceLo {elem g ofs m cap lo : Nat} {k1 : IntKind} {a : Int} (ht : Tryd.prog.underlying t = some (.slice elem)) (hs : (Tryd.prog.info? elem).map (·.size) = some 1) (hx : ev l x = some (.slice (some ⟨g, ofs, none⟩) m cap)) (ha : ev l y = some (.int k1 a))
    (hea : a = (lo : Int)) (h1 : lo < m) (h2 : m ≤ cap) :
    Runs Tryd.prog l (.slice t x (some y) none none) w (.slice (some ⟨g, ofs + lo, none⟩) (m - lo) (cap - lo)) w := fun r _ _ _ _ _ he => by
  subst hea
  obtain ⟨inf, hi', hz⟩ := inf_of hs
  have hb2 : (Instr.sliceBound (.int k1 (lo : Int)) m .sliceB).run Tryd.prog w = .ok lo w := by
    have := run_sliceBound (P := Tryd.prog) (w := w) k1 (lo : Int) m .sliceB (by omega) (by omega)
    simpa using this
  have hbs : (Instr.sliceBounds true m cap (some (.int k1 (lo : Int))) none none).run Tryd.prog w = .ok (lo, m, cap) w := by
    simp [Instr.sliceBounds, hb2]
  have hat : (Instr.sliceAt t (.slice (some ⟨g, ofs, none⟩) m cap) (some (.int k1 (lo : Int))) none none).run Tryd.prog w = .ok (.slice (some ⟨g, ofs + lo, none⟩) (m - lo) (cap - lo)) w := by
    have hne : ¬ cap = lo := by omega
    simp only [Instr.sliceAt, Instr.slice, Sem.run_bind, run_underlying ht, Result.andThen_ok, hbs, sizeOf, typeInfo, run_program, hi', hz, Nat.mul_one, Sem.run_pure, hne, if_false]
    simp [Addr.add_none]
  simp only [execOp, he x _ hx, Option.map_some, Option.map_none, he y _ ha, Sem.run_bind, hat, Result.andThen_ok]
  rfl
end
end Go.Proofs.YthcpjcgjmdfpjaaDoor
namespace Go.Proofs.YthcpjcgjmdfpjaaDoor
open Go Go.RowKit
theorem binOp_orB (t : TypeId) (a b : UInt8) : binOp .or t (u8v a) (u8v b) = pure (u8v (a ||| b)) := by
  unfold u8v
  simp only [binOp, Op.intBits, ne_eq, not_true, ite_false]
  have h : ∀ c : UInt8, (BitVec.ofInt 8 (c.toNat : Int)).toNat = c.toNat := by
    intro c
    simp [BitVec.toNat_ofInt]
  have e : (BitVec.ofInt IntKind.u8.bits (a.toNat : Int) ||| BitVec.ofInt IntKind.u8.bits (b.toNat : Int)).toNat = (a ||| b).toNat := by
    show (BitVec.ofInt 8 (a.toNat : Int) ||| BitVec.ofInt 8 (b.toNat : Int)).toNat = (a ||| b).toNat
    rw [BitVec.toNat_or, h, h, UInt8.toNat_or]
  rw [e, IntWalk.u8_in _ (by have := (a ||| b).toNat_lt; omega)]
theorem R.orB {l : Env} {w : World} {x y : Operand} {t ty : TypeId} {P : Program} {a b : UInt8} (hx : ev l x = some (u8v a)) (hy : ev l y = some (u8v b)) : Runs P l (.binOp .or t x y ty) w (u8v (a ||| b)) w :=
  R.bin hx hy (binOp_orB t a b)
theorem c_eq {c : UInt8} {n : Nat} (h : (c.toNat : Int) = (n : Int)) (hn : n < 256 := by decide) : c = UInt8.ofNat n := by
  apply UInt8.toNat_inj.1
  rw [UInt8.toNat_ofNat']
  omega
end Go.Proofs.YthcpjcgjmdfpjaaDoor
