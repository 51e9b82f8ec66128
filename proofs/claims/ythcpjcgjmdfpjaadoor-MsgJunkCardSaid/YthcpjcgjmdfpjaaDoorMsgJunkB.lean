/- Words and walks for the statement MsgJunk, part 2 of 4: Args, Ops4, All, RdSpec, Whole, RName, Num, RecSpec, Ops5, RRec, DecSpec. -/
import Derived.Test.YthcpjcgjmdfpjaaDoorMsgJunkA
namespace Go.Proofs.YthcpjcgjmdfpjaaDoor
open Go Go.ChangeShapes Go.WideShapes Go.ChangeAt Go.RowKit
set_option maxRecDepth 100000

theorem take1_at {α : Type} {cs : List α} {i : Nat} {v : α} (h : (cs.drop i).take 1 = [v]) : cs[i]? = some v := by
  have := congrArg (fun l => l[0]?) h
  simpa [List.getElem?_take, List.getElem?_drop] using this
theorem map_of {α : Type} (f : α → Value) (cs : List Value) (h : ∀ (i : Nat) v, cs[i]? = some v → ∃ a, v = f a) : ∃ l : List α, cs = l.map f := by
  induction cs with
  | nil => exact ⟨[], rfl⟩
  | cons v vs ih =>
    obtain ⟨a, rfl⟩ := h 0 v rfl
    obtain ⟨l, rfl⟩ := ih (fun i u hu => h (i + 1) u (by simpa using hu))
    exact ⟨a :: l, rfl⟩
theorem choose_list {α : Type} (Q : Nat → α → Prop) : ∀ (n : Nat), (∀ i, i < n → ∃ a, Q i a) → ∃ l : List α, l.length = n ∧ ∀ i a, l[i]? = some a → Q i a
  | 0, _ => ⟨[], rfl, fun i a h => by simp at h⟩
  | n + 1, h => by
    obtain ⟨l, hl, hq⟩ := choose_list Q n (fun i hi => h i (by omega))
    obtain ⟨a, ha⟩ := h n (by omega)
    refine ⟨l ++ [a], by simp [hl], fun i b hb => ?_⟩
    by_cases hi : i < n
    · rw [List.getElem?_append_left (by omega)] at hb; exact hq i b hb
    · have : i = n := by
        have := (List.getElem?_eq_some_iff.1 hb).1
        simp at this; omega
      subst this
      rw [List.getElem?_append_right (by omega), hl] at hb
      simp at hb; subst hb; exact ha
theorem i64_of {n : Int} (h : (Lit.int .i64 n).wf = true) : -9223372036854775808 ≤ n ∧ n ≤ 9223372036854775807 := bounds_i64 h

section
variable {H : Type} {enc : TypeId × Value → H} {W : World} {B : Nat} {sp : Nat → Bool} {hd : Bool} {fuel : Nat} {cs : List Value} {x : DataW H × List MemPlace}

theorem trod_arr1 {α : Type} (f : α → Value) {t n e : Nat} (ht : Tryd.prog.underlying t = some (.array n e)) (hc : Tryd.prog.cellsOf t = n) (he : Tryd.prog.cellsOf e = 1) (hone : ∀ fuel cs x, DataW.trod enc Tryd.prog W B sp hd fuel e cs = some x → ∃ a, cs = [f a]) (h : DataW.trod enc Tryd.prog W B sp hd fuel t cs = some x) : ∃ l : List α, cs = l.map f ∧ l.length = n := by
  obtain ⟨xs, m, _, _, hl, hxl, hel⟩ := DataW.trod_array ht h
  rw [hc] at hl
  have key : ∀ i, i < n → ∃ a, cs[i]? = some (f a) := by
    intro i hi
    have h1 := hel i hi
    rw [he, Nat.mul_one, List.getElem?_eq_getElem (by omega)] at h1
    obtain ⟨a, ha⟩ := hone _ _ _ h1
    exact ⟨a, take1_at ha⟩
  obtain ⟨l, hl2⟩ := map_of f cs (fun i v hv => by
    have hi := (List.getElem?_eq_some_iff.1 hv).1
    obtain ⟨a, ha⟩ := key i (by omega)
    rw [hv] at ha
    exact ⟨a, Option.some.inj ha⟩)
  exact ⟨l, hl2, by rw [hl2, List.length_map] at hl; exact hl⟩
theorem one_u8 : ∀ fuel cs x, DataW.trod enc Tryd.prog W B sp hd fuel 5 cs = some x → ∃ b : UInt8, cs = [u8v b] := by
  intro fuel cs x h
  obtain ⟨z, rfl, _, hw⟩ := DataW.trod_int Tryd.underlying5 h
  have := u8_of hw
  refine ⟨UInt8.ofNat z.toNat, ?_⟩
  unfold u8v
  congr 2
  rw [UInt8.toNat_ofNat']
  omega
theorem one_bool : ∀ fuel cs x, DataW.trod enc Tryd.prog W B sp hd fuel 4 cs = some x → ∃ b : Bool, cs = [.bool b] := by
  intro fuel cs x h
  obtain ⟨b, rfl, _⟩ := DataW.trod_bool Tryd.underlying4 h
  exact ⟨b, rfl⟩
/-- A whole number that fits. -/
def I64 (n : Int) : Prop := -9223372036854775808 ≤ n ∧ n ≤ 9223372036854775807
theorem one_int : ∀ fuel cs x, DataW.trod enc Tryd.prog W B sp hd fuel 3 cs = some x → ∃ n : Int, cs = [.int .i64 n] ∧ I64 n := by
  intro fuel cs x h
  obtain ⟨z, rfl, _, hw⟩ := DataW.trod_int Tryd.underlying3 h
  exact ⟨z, rfl, i64_of hw⟩
theorem one_str : ∀ fuel cs x, DataW.trod enc Tryd.prog W B sp hd fuel 9 cs = some x → ∃ s : List UInt8, cs = [sv s] ∧ s.length ≤ maxLen := by
  intro fuel cs x h
  obtain ⟨s, rfl, _, hw⟩ := DataW.trod_string Tryd.underlying9 h
  exact ⟨s.data.toList, by rw [sv_of], Nat.le_trans (Nat.le_of_eq Array.length_toList) hw⟩
theorem trod_addr (h : DataW.trod enc Tryd.prog W B sp hd fuel 27 cs = some x) : ∃ bs : List UInt8, cs = bs.map u8v ∧ bs.length = 16 :=
  trod_arr1 u8v Tryd.underlying27 (by kernel_rfl) (by kernel_rfl) one_u8 h

/-- A field's cells. -/
theorem field_of {t : Nat} {fs : Array Field} (ht : Tryd.prog.underlying t = some (.struct fs)) (h : DataW.trod enc Tryd.prog W B sp hd fuel t cs = some x) (i : Nat) {f : Field} (hf : fs[i]? = some f) {o ty n : Nat} (ho : f.offset = o) (hty : f.type = ty) (hn : Tryd.prog.cellsOf ty = n) :
    ∃ fuel y, DataW.trod enc Tryd.prog W B sp hd fuel ty ((cs.drop o).take n) = some y := by
  obtain ⟨xs, m, _, _, _, hxl, hel⟩ := DataW.trod_struct ht h
  have h1 := hel i f hf
  rw [ho, hty, hn] at h1
  have hi : i < fs.size := by
    have := (Array.getElem?_eq_some_iff.1 hf).1; exact this
  rw [List.getElem?_eq_getElem (by omega)] at h1
  exact ⟨m, _, h1⟩
theorem struct_len {t : Nat} {fs : Array Field} (ht : Tryd.prog.underlying t = some (.struct fs)) (h : DataW.trod enc Tryd.prog W B sp hd fuel t cs = some x) : cs.length = Tryd.prog.cellsOf t := by
  obtain ⟨xs, m, _, _, hl, _, _⟩ := DataW.trod_struct ht h
  exact hl
end

/-! ### Seeds, local addresses -/
structure SeedV where
  name : Int
  kind : Int
  ttl : Int
  addr : List UInt8
  data : List UInt8
def SeedV.cells (s : SeedV) : List Value := .int .i64 s.name :: .int .i64 s.kind :: .int .i64 s.ttl :: (s.addr.map u8v ++ [sv s.data])
structure SeedV.Ok (s : SeedV) : Prop where
  a : s.addr.length = 16
  n : I64 s.name
  k : I64 s.kind
  t : I64 s.ttl
  d : s.data.length ≤ maxLen
structure LocalV where
  addr : List UInt8
  p : Bool
  q : Bool
def LocalV.cells (s : LocalV) : List Value := s.addr.map u8v ++ [.bool s.p, .bool s.q]

theorem drop_split {cs : List Value} {k : Nat} {n : Nat} : cs.drop k = (cs.drop k).take n ++ cs.drop (k + n) := by
  rw [← List.drop_drop]; exact (List.take_append_drop n _).symm

section
variable {H : Type} {enc : TypeId × Value → H} {W : World} {B : Nat} {sp : Nat → Bool} {hd : Bool} {fuel : Nat} {cs : List Value} {x : DataW H × List MemPlace}
theorem trod_seed (h : DataW.trod enc Tryd.prog W B sp hd fuel 50 cs = some x) : ∃ s : SeedV, cs = s.cells ∧ s.Ok := by
  have hl := struct_len Tryd.underlying50 h
  rw [show Tryd.prog.cellsOf 50 = 20 by kernel_rfl] at hl
  obtain ⟨_, _, h0⟩ := field_of Tryd.underlying50 h 0 rfl (o := 0) (ty := 3) (n := 1) rfl rfl (by kernel_rfl)
  obtain ⟨_, _, h1⟩ := field_of Tryd.underlying50 h 1 rfl (o := 1) (ty := 3) (n := 1) rfl rfl (by kernel_rfl)
  obtain ⟨_, _, h2⟩ := field_of Tryd.underlying50 h 2 rfl (o := 2) (ty := 3) (n := 1) rfl rfl (by kernel_rfl)
  obtain ⟨_, _, h3⟩ := field_of Tryd.underlying50 h 3 rfl (o := 3) (ty := 27) (n := 16) rfl rfl (by kernel_rfl)
  obtain ⟨_, _, h4⟩ := field_of Tryd.underlying50 h 4 rfl (o := 19) (ty := 9) (n := 1) rfl rfl (by kernel_rfl)
  obtain ⟨a, e0, b0⟩ := one_int _ _ _ h0
  obtain ⟨b, e1, b1⟩ := one_int _ _ _ h1
  obtain ⟨c, e2, b2⟩ := one_int _ _ _ h2
  obtain ⟨d, e3, b3⟩ := trod_addr h3
  obtain ⟨e, e4, b4⟩ := one_str _ _ _ h4
  refine ⟨⟨a, b, c, d, e⟩, ?_, b3, b0, b1, b2, b4⟩
  have hz : cs.drop 20 = [] := List.drop_eq_nil_of_le (by omega)
  have s0 := drop_split (cs := cs) (k := 0) (n := 1)
  have s1 := drop_split (cs := cs) (k := 1) (n := 1)
  have s2 := drop_split (cs := cs) (k := 2) (n := 1)
  have s3 := drop_split (cs := cs) (k := 3) (n := 16)
  have s4 := drop_split (cs := cs) (k := 19) (n := 1)
  simp only [Nat.zero_add, Nat.reduceAdd] at s0 s1 s2 s3 s4
  rw [e0, s1, e1, s2, e2, s3, e3, s4, e4, hz, List.drop_zero] at s0
  rw [s0]; rfl
theorem trod_local (h : DataW.trod enc Tryd.prog W B sp hd fuel 70 cs = some x) : ∃ s : LocalV, cs = s.cells ∧ s.addr.length = 16 := by
  have hl := struct_len Tryd.underlying70 h
  rw [show Tryd.prog.cellsOf 70 = 18 by kernel_rfl] at hl
  obtain ⟨_, _, h0⟩ := field_of Tryd.underlying70 h 0 rfl (o := 0) (ty := 27) (n := 16) rfl rfl (by kernel_rfl)
  obtain ⟨_, _, h1⟩ := field_of Tryd.underlying70 h 1 rfl (o := 16) (ty := 4) (n := 1) rfl rfl (by kernel_rfl)
  obtain ⟨_, _, h2⟩ := field_of Tryd.underlying70 h 2 rfl (o := 17) (ty := 4) (n := 1) rfl rfl (by kernel_rfl)
  obtain ⟨a, e0, b0⟩ := trod_addr h0
  obtain ⟨b, e1⟩ := one_bool _ _ _ h1
  obtain ⟨c, e2⟩ := one_bool _ _ _ h2
  refine ⟨⟨a, b, c⟩, ?_, b0⟩
  have hz : cs.drop 18 = [] := List.drop_eq_nil_of_le (by omega)
  have s0 := drop_split (cs := cs) (k := 0) (n := 16)
  have s1 := drop_split (cs := cs) (k := 16) (n := 1)
  have s2 := drop_split (cs := cs) (k := 17) (n := 1)
  simp only [Nat.zero_add, Nat.reduceAdd] at s0 s1 s2
  rw [e0, s1, e1, s2, e2, hz, List.drop_zero] at s0
  rw [s0]; rfl
theorem trod_rec (h : DataW.trod enc Tryd.prog W B sp hd fuel 57 cs = some x) : ∃ r : Rec, cs = r.cells ∧ (r.addr.length = 16 ∧ I64 r.type ∧ I64 r.ttl ∧ r.name.length ≤ maxLen ∧ r.text.length ≤ maxLen ∧ r.data.length ≤ maxLen) := by
  have hl := struct_len Tryd.underlying57 h
  rw [show Tryd.prog.cellsOf 57 = 21 by kernel_rfl] at hl
  obtain ⟨_, _, h0⟩ := field_of Tryd.underlying57 h 0 rfl (o := 0) (ty := 9) (n := 1) rfl rfl (by kernel_rfl)
  obtain ⟨_, _, h1⟩ := field_of Tryd.underlying57 h 1 rfl (o := 1) (ty := 3) (n := 1) rfl rfl (by kernel_rfl)
  obtain ⟨_, _, h2⟩ := field_of Tryd.underlying57 h 2 rfl (o := 2) (ty := 3) (n := 1) rfl rfl (by kernel_rfl)
  obtain ⟨_, _, h3⟩ := field_of Tryd.underlying57 h 3 rfl (o := 3) (ty := 27) (n := 16) rfl rfl (by kernel_rfl)
  obtain ⟨_, _, h4⟩ := field_of Tryd.underlying57 h 4 rfl (o := 19) (ty := 9) (n := 1) rfl rfl (by kernel_rfl)
  obtain ⟨_, _, h5⟩ := field_of Tryd.underlying57 h 5 rfl (o := 20) (ty := 9) (n := 1) rfl rfl (by kernel_rfl)
  obtain ⟨a, e0, b0⟩ := one_str _ _ _ h0
  obtain ⟨b, e1, b1⟩ := one_int _ _ _ h1
  obtain ⟨c, e2, b2⟩ := one_int _ _ _ h2
  obtain ⟨d, e3, b3⟩ := trod_addr h3
  obtain ⟨e, e4, b4⟩ := one_str _ _ _ h4
  obtain ⟨f, e5, b5⟩ := one_str _ _ _ h5
  refine ⟨⟨a, b, c, d, e, f⟩, ?_, b3, b1, b2, b0, b4, b5⟩
  have hz : cs.drop 21 = [] := List.drop_eq_nil_of_le (by omega)
  have s0 := drop_split (cs := cs) (k := 0) (n := 1)
  have s1 := drop_split (cs := cs) (k := 1) (n := 1)
  have s2 := drop_split (cs := cs) (k := 2) (n := 1)
  have s3 := drop_split (cs := cs) (k := 3) (n := 16)
  have s4 := drop_split (cs := cs) (k := 19) (n := 1)
  have s5 := drop_split (cs := cs) (k := 20) (n := 1)
  simp only [Nat.zero_add, Nat.reduceAdd] at s0 s1 s2 s3 s4 s5
  rw [e0, s1, e1, s2, e2, s3, e3, s4, e4, s5, e5, hz, List.drop_zero] at s0
  rw [s0]; rfl

/-- A slice of things of several cells that one may read. -/
def Sl {α : Type} (cells : α → List Value) (n : Nat) (w : World) (A : Option Addr) (m : Nat) (l : List α) : Prop :=
  l.length = m ∧ (m ≠ 0 → ∃ g o, A = some ⟨g, o, none⟩ ∧ ∀ (j : Nat) a (i : Nat) u, l[j]? = some a → (cells a)[i]? = some u → w.cell? ⟨g, o + j * n + i, none⟩ = some u)
theorem Sl.kept {α : Type} {cells : α → List Value} {n : Nat} {w w' : World} {A : Option Addr} {m : Nat} {l : List α} (h : Sl cells n w A m l) (hc : Chg (fun _ => False) w w') : Sl cells n w' A m l := by
  refine ⟨h.1, fun h0 => ?_⟩
  obtain ⟨g, o, hA, hcell⟩ := h.2 h0
  exact ⟨g, o, hA, fun j a i u hj hi => cell_chg hc (hcell j a i u hj hi) (fun e => e)⟩
theorem trod_slOf {α : Type} {cells : α → List Value} {Q : α → Prop} {t e n : Nat} (ht : Tryd.prog.underlying t = some (.slice e)) (hn : Tryd.prog.cellsOf e = n) (hn0 : 0 < n)
    (hone : ∀ fuel cs x, DataW.trod enc Tryd.prog W B sp hd fuel e cs = some x → ∃ a, cs = cells a ∧ Q a) (h : DataW.trod enc Tryd.prog W B sp hd fuel t cs = some x) :
    ∃ A m c l, cs = [.slice A m c] ∧ m ≤ c ∧ c ≤ maxLen ∧ Sl cells n W A m l ∧ ∀ a ∈ l, Q a := by
  rcases DataW.trod_slice ht h with ⟨rfl, _⟩ | ⟨a, len, cap, elems, rest, fu, _, rfl, _, _, hl, hm, hel, hcell, _, _⟩
  · exact ⟨none, 0, 0, [], rfl, Nat.le_refl _, by simp [maxLen], ⟨rfl, fun h => absurd rfl h⟩, fun a h => by cases h⟩
  · rw [hn] at hcell
    obtain ⟨l, hll, hq⟩ := choose_list (fun i (b : α) => Q b ∧ (cells b).length = n ∧ ∀ k u, (cells b)[k]? = some u → W.cell? ((a.add (i * n)).add k) = some u) len (fun i hi => by
      have h1 := hcell i hi
      rw [List.getElem?_eq_getElem (by omega), Option.bind_eq_some_iff] at h1
      obtain ⟨cs', h2, h3⟩ := h1
      obtain ⟨b, rfl, hqb⟩ := hone _ _ _ h3
      obtain ⟨_, hlen, hc⟩ := World.cells?_some h2
      exact ⟨b, hqb, hlen, fun k u hk => by
        have := (List.getElem?_eq_some_iff.1 hk).1
        rw [hc k (by omega), hk]⟩)
    refine ⟨some a, len, cap, l, rfl, hl, hm, ⟨hll, fun h0 => ?_⟩, fun b hb => ?_⟩
    · obtain ⟨b0, hb0⟩ : ∃ b, l[0]? = some b := ⟨l[0]'(by omega), List.getElem?_eq_getElem (by omega)⟩
      obtain ⟨_, hbl, hc0⟩ := hq 0 b0 hb0
      obtain ⟨u0, hu0⟩ : ∃ u, (cells b0)[0]? = some u := ⟨(cells b0)[0]'(by omega), List.getElem?_eq_getElem (by omega)⟩
      have h00 := hc0 0 u0 hu0
      obtain ⟨g, o, spot⟩ := a
      have hspot : spot = none := by simpa [Addr.add] using World.cell?_spot h00
      subst hspot
      refine ⟨g, o, rfl, fun j b i u hj hi => ?_⟩
      have := (hq j b hj).2.2 i u hi
      rwa [Addr.add_none, Addr.add_none] at this
    · obtain ⟨i, hi⟩ := List.getElem?_of_mem hb
      exact (hq i b hi).1
end

/-! ### Whole arguments -/
section
variable {H : Type} {enc : TypeId × Value → H} {W : World} {base : Nat} {v : Value} {d : DataW H} {p : List MemPlace} {sp : Nat → Bool}
theorem agg_of {t : Nat} {dd : TypeDesc} (ht : Tryd.prog.underlying t = some dd) (hd : isAggD dd = true) (hval : Value.okWide Tryd.prog W .any base t v) : ∃ cs, v = .agg cs := by
  unfold Value.okWide at hval
  rw [ht] at hval
  cases dd <;> first | (obtain ⟨cs, h, _⟩ := hval; exact ⟨cs, h⟩) | cases hd
theorem arr_list {cs : Array Value} {l : List Value} (h : (Value.agg cs).cells.toList = l) : cs = l.toArray := by
  have : cs.toList = l := h
  rw [← this]
theorem open_addr (hval : Value.okWide Tryd.prog W .any base 27 v) (hd : DataW.Trod enc Tryd.prog W 0 sp true 27 v d p) : ∃ bs : List UInt8, v = .agg (bs.map u8v).toArray ∧ bs.length = 16 := by
  obtain ⟨cs, rfl⟩ := agg_of Tryd.underlying27 rfl hval
  obtain ⟨fuel, hf⟩ := hd
  obtain ⟨bs, h1, h2⟩ := trod_addr hf
  exact ⟨bs, by rw [arr_list h1], h2⟩
theorem open_seed (hval : Value.okWide Tryd.prog W .any base 50 v) (hd : DataW.Trod enc Tryd.prog W 0 sp true 50 v d p) : ∃ s : SeedV, v = .agg s.cells.toArray ∧ s.Ok := by
  obtain ⟨cs, rfl⟩ := agg_of Tryd.underlying50 rfl hval
  obtain ⟨fuel, hf⟩ := hd
  obtain ⟨bs, h1, h2⟩ := trod_seed hf
  exact ⟨bs, by rw [arr_list h1], h2⟩
theorem open_rec (hval : Value.okWide Tryd.prog W .any base 57 v) (hd : DataW.Trod enc Tryd.prog W 0 sp true 57 v d p) : ∃ r : Rec, v = r.val ∧ (r.addr.length = 16 ∧ I64 r.type ∧ I64 r.ttl ∧ r.name.length ≤ maxLen ∧ r.text.length ≤ maxLen ∧ r.data.length ≤ maxLen) := by
  obtain ⟨cs, rfl⟩ := agg_of Tryd.underlying57 rfl hval
  obtain ⟨fuel, hf⟩ := hd
  obtain ⟨bs, h1, h2⟩ := trod_rec hf
  exact ⟨bs, by rw [arr_list h1]; rfl, h2⟩
theorem open_slOf {α : Type} {cells : α → List Value} {Q : α → Prop} {t e n : Nat} (ht : Tryd.prog.underlying t = some (.slice e)) (hn : Tryd.prog.cellsOf e = n) (hn0 : 0 < n)
    (hone : ∀ fuel cs x, DataW.trod enc Tryd.prog W 0 sp true fuel e cs = some x → ∃ a, cs = cells a ∧ Q a) (hval : Value.okWide Tryd.prog W .any base t v) (hd : DataW.Trod enc Tryd.prog W 0 sp true t v d p) :
    ∃ A m c l, v = .slice A m c ∧ m ≤ c ∧ c ≤ maxLen ∧ Sl cells n W A m l ∧ ∀ a ∈ l, Q a := by
  obtain ⟨a0, len, cap, rfl⟩ := okWide_slice ht hval
  obtain ⟨fuel, hf⟩ := hd
  obtain ⟨A, m, c, l, h1, h2⟩ := trod_slOf ht hn hn0 hone hf
  have h3 : (Value.slice a0 len cap).cells.toList = [.slice a0 len cap] := rfl
  rw [h3] at h1
  exact ⟨A, m, c, l, by injection h1, h2⟩
theorem open_seeds (hval : Value.okWide Tryd.prog W .any base 48 v) (hd : DataW.Trod enc Tryd.prog W 0 sp true 48 v d p) :
    ∃ A m c l, v = .slice A m c ∧ m ≤ c ∧ c ≤ maxLen ∧ Sl SeedV.cells 20 W A m l ∧ ∀ s ∈ l, s.Ok :=
  open_slOf Tryd.underlying48 (by kernel_rfl) (by decide) (fun _ _ _ h => trod_seed h) hval hd
theorem open_locals (hval : Value.okWide Tryd.prog W .any base 63 v) (hd : DataW.Trod enc Tryd.prog W 0 sp true 63 v d p) :
    ∃ A m c l, v = .slice A m c ∧ m ≤ c ∧ c ≤ maxLen ∧ Sl LocalV.cells 18 W A m l ∧ ∀ s ∈ l, s.addr.length = 16 :=
  open_slOf Tryd.underlying63 (by kernel_rfl) (by decide) (fun _ _ _ h => trod_local h) hval hd
theorem open_bool7 (hval : Value.okWide Tryd.prog W .any base 22 v) (hd : DataW.Trod enc Tryd.prog W 0 sp true 22 v d p) : ∃ l : List Bool, v = .agg (l.map Value.bool).toArray ∧ l.length = 7 := by
  obtain ⟨cs, rfl⟩ := agg_of Tryd.underlying22 rfl hval
  obtain ⟨fuel, hf⟩ := hd
  obtain ⟨bs, h1, h2⟩ := trod_arr1 Value.bool Tryd.underlying22 (by kernel_rfl) (by kernel_rfl) one_bool hf
  exact ⟨bs, by rw [arr_list h1], h2⟩
theorem open_int3 (hval : Value.okWide Tryd.prog W .any base 64 v) (hd : DataW.Trod enc Tryd.prog W 0 sp true 64 v d p) : ∃ l : List Int, v = .agg (l.map (Value.int .i64)).toArray ∧ l.length = 3 := by
  obtain ⟨cs, rfl⟩ := agg_of Tryd.underlying64 rfl hval
  obtain ⟨fuel, hf⟩ := hd
  obtain ⟨bs, h1, h2⟩ := trod_arr1 (Value.int .i64) Tryd.underlying64 (by kernel_rfl) (by kernel_rfl) (fun f cs x h => by obtain ⟨n, h1, _⟩ := one_int f cs x h; exact ⟨n, h1⟩) hf
  exact ⟨bs, by rw [arr_list h1], h2⟩
end
end Go.Proofs.YthcpjcgjmdfpjaaDoor

namespace Go.Proofs.YthcpjcgjmdfpjaaDoor
open Go Go.RowKit
set_option maxRecDepth 100000
section
variable {l : Env} {w : World} {x y z : Operand} {t ty e : TypeId} {v : Value} {b o : Nat}

/-- An element of one cell, of an array's value. -/
theorem R.index1 {n i : Nat} {k : IntKind} {j : Int} {cs : Array Value} {d : TypeDesc} (ht : Tryd.prog.underlying t = some (.array n e)) (he : Tryd.prog.underlying e = some d) (hd : isAggD d = false) (hs : (Tryd.prog.info? e).map (·.size) = some 1)
    (hx : ev l x = some (.agg cs)) (hy : ev l y = some (.int k j)) (hj : j = (i : Int)) (hi : i < n) (hv : cs[i]? = some v) : Runs Tryd.prog l (.index t x y) w v w := fun r _ _ _ _ _ he' => by
  subst hj
  obtain ⟨inf, hi', hz⟩ := inf_of hs
  have h1 : (0 : Int) ≤ (i : Int) ∧ (i : Int) < (n : Int) := by omega
  have hp := run_part1 (P := Tryd.prog) he hd (cs := cs) (i := i) hv w
  simp only [execOp, he' x _ hx, he' y _ hy, Instr.index, asIntOf, Sem.run_bind, Sem.run_pure, Result.andThen_ok, run_underlying ht, if_pos h1, sizeOf, typeInfo, run_program, hi', hz, Int.toNat_natCast, Nat.mul_one, hp]
/-- An element of several cells. -/
theorem R.indexN {n i s : Nat} {k : IntKind} {j : Int} {cs : Array Value} {d : TypeDesc} (ht : Tryd.prog.underlying t = some (.array n e)) (he : Tryd.prog.underlying e = some d) (hd : isAggD d = true) (hs : (Tryd.prog.info? e).map (·.size) = some s)
    (hx : ev l x = some (.agg cs)) (hy : ev l y = some (.int k j)) (hj : j = (i : Int)) (hi : i < n) : Runs Tryd.prog l (.index t x y) w (.agg (cs.extract (i * s) (i * s + s))) w := fun r _ _ _ _ _ he' => by
  subst hj
  obtain ⟨inf, hi', hz⟩ := inf_of hs
  have h1 : (0 : Int) ≤ (i : Int) ∧ (i : Int) < (n : Int) := by omega
  have hp := run_partAgg (P := Tryd.prog) he hd hs cs (i * s) w
  simp only [execOp, he' x _ hx, he' y _ hy, Instr.index, asIntOf, Sem.run_bind, Sem.run_pure, Result.andThen_ok, run_underlying ht, if_pos h1, sizeOf, typeInfo, run_program, hi', hz, Int.toNat_natCast, hp]
/-- The address of an array's element. -/
theorem R.indexArr {n i s : Nat} {k : IntKind} {j : Int} (ht : Tryd.prog.underlying t = some (.array n e)) (hs : (Tryd.prog.info? e).map (·.size) = some s) (hx : ev l x = some (.pointer (some ⟨b, o, none⟩))) (hy : ev l y = some (.int k j)) (hj : j = (i : Int)) (hi : i < n) :
    Runs Tryd.prog l (.indexAddr t x y) w (.pointer (some ⟨b, o + i * s, none⟩)) w := fun r _ _ _ _ _ he => by
  subst hj
  obtain ⟨inf, hi', hz⟩ := inf_of hs
  have h1 : (0 : Int) ≤ (i : Int) ∧ (i : Int) < (n : Int) := by omega
  simp [execOp, he x _ hx, he y _ hy, Instr.indexAt, asIntOf, run_underlying ht, h1, sizeOf, typeInfo, hi', hz, Addr.add_none, Instr.sureAddr, hi]

/-- A store of several cells somewhere in a block. -/
theorem OP.storeAt {n : Nat} {Q : Exit → Act → World → Prop} {M : Env → World → Prop} {pos : String} {af : Array Edge} {cur cells : Array Value} {s : Nat} (hs : (Tryd.prog.info? t).map (·.size) = some s) (hn : cells.size = s) (hx : ev l x = some (.pointer (some ⟨b, o, none⟩))) (hy : ev l y = some (.agg cells)) (h1 : cells.all (·.oneCell') = true)
    (hb : w.heap[b]? = some (.cells cur e (0, 0))) (ho : o + s ≤ cur.size)
    (h : ∀ w', Chg (fun k => k = b) w w' → w'.heap.size = w.heap.size → w'.heap[b]? = some (.cells (cur.toList.take o ++ cells.toList ++ cur.toList.drop (o + s)).toArray e (0, 0)) → M l w') :
    OP Tryd.prog Q ⟨none, .store t x y, ty, pos, af, none⟩ n l w M := by
  obtain ⟨inf, hi', hz⟩ := inf_of hs
  subst hn
  refine OP.unit (w' := w.setRow b (cur.toList.take o ++ cells.toList ++ cur.toList.drop (o + cells.size)).toArray) (fun r _ _ _ _ _ he => ?_) (h _ (Chg.setRow _ _ _ rfl) (by simp) (setRow_heap _ _ _ _ _ _ hb))
  have hone : ∀ v ∈ cells.toList, v.oneCell' = true := by
    intro v hv
    rw [Array.all_eq_true_iff_forall_mem] at h1
    exact h1 v (by simpa using hv)
  have hst := run_storeCells_at Tryd.prog b o e cells.toList 0 cur w hb (by simpa using ho) hone
  simp only [Nat.add_zero, Array.toArray_toList, Array.length_toList] at hst
  simp only [execOp, he x _ hx, he y _ hy, Instr.storeAt, Instr.sureAddr, Sem.run_bind, Sem.run_pure, Result.andThen_ok]
  simp [storeVar, sizeOf, typeInfo, hi', hz, Value.cells, hst]

theorem R.minC {a b : Int} {k k' : IntKind} {ts : Array TypeId} (hx : ev l x = some (.int k a)) (hy : ev l y = some (.int k' b)) : Runs Tryd.prog l (.call { callee := .builtin .min, args := #[x, y], argTypes := ts }) w (.int k (if b < a then b else a)) w := fun r _ _ _ _ _ he => by
  simp only [execOp, resolve, invoke, builtin, Sem.run_bind, Sem.run_pure, Result.andThen_ok, List.map_toArray, List.map_cons, List.map_nil, he x _ hx, he y _ hy, run_min_int2]
theorem R.eqlB {a b c : Bool} (hx : ev l x = some (.bool a)) (hy : ev l y = some (.bool b)) (h : (a == b) = c) : Runs Tryd.prog l (.binOp .eql 4 x y ty) w (.bool c) w := fun r _ _ _ _ _ he => by
  subst h
  have := run_eql_bool (P := Tryd.prog) w 4 a b Tryd.underlying4
  simp [execOp, he x _ hx, he y _ hy, eqGuard, this]
theorem R.neqB {a b c : Bool} (hx : ev l x = some (.bool a)) (hy : ev l y = some (.bool b)) (h : (!(a == b)) = c) : Runs Tryd.prog l (.binOp .neq 4 x y ty) w (.bool c) w := fun r _ _ _ _ _ he => by
  subst h
  have := run_neq_bool (P := Tryd.prog) w 4 a b Tryd.underlying4
  simp [execOp, he x _ hx, he y _ hy, eqGuard, this]
end
end Go.Proofs.YthcpjcgjmdfpjaaDoor

namespace Go.Proofs.YthcpjcgjmdfpjaaDoor
open Go Go.RowKit
set_option maxRecDepth 100000
set_option maxHeartbeats 4000000

theorem build106 (A : Option Addr) (n c : Nat) (B : Option Addr) (m d : Nat) (w : World) : (Instr.build 106 #[(0, .slice A n c), (1, .slice B m d)]).run Tryd.prog w = .ok (.agg #[.slice A n c, .slice B m d]) w := by kernel_rfl
/-- Which of the two lists. -/
theorem elem_of {m : Msg} {w : World} {Aa Ab : Option Addr} {ca cb i : Nat} (ha : RSl w (.slice Aa m.ans.length ca) m.ans) (hb : RSl w (.slice Ab m.auth.length cb) m.auth) (hi : i < 2) :
    ∃ (rs : List Rec) (A : Option Addr) (c : Nat), [m.ans, m.auth][i]? = some rs ∧ (#[Value.slice Aa m.ans.length ca, Value.slice Ab m.auth.length cb])[i]? = some (.slice A rs.length c) ∧ RSl w (.slice A rs.length c) rs ∧ rs.length ≤ m.ans.length + m.auth.length := by
  match i, hi with
  | 0, _ => exact ⟨m.ans, Aa, ca, rfl, rfl, ha, by omega⟩
  | 1, _ => exact ⟨m.auth, Ab, cb, rfl, rfl, hb, by omega⟩
theorem all_false {rs : List Rec} {j : Nat} {x : Rec} (hx : rs[j]? = some x) (hr : rightR x = false) : rs.all rightR = false := by
  rw [List.all_eq_false]
  exact ⟨x, List.mem_of_getElem? hx, by simp [hr]⟩
theorem all_bad {m : Msg} {i : Nat} {rs : List Rec} (h : [m.ans, m.auth][i]? = some rs) (hf : rs.all rightR = false) : allM m = false := by
  unfold allM
  match i, h with
  | 0, h => obtain rfl := Option.some.inj h; simp [hf]
  | 1, h => obtain rfl := Option.some.inj h; simp [hf]
  | k + 2, h => simp at h
theorem mem_of {m : Msg} {i j : Nat} {rs : List Rec} {x : Rec} (h : [m.ans, m.auth][i]? = some rs) (hx : rs[j]? = some x) : x ∈ m.ans ++ m.auth := by
  have := List.mem_of_getElem? hx
  match i, h with
  | 0, h => obtain rfl := Option.some.inj h; simp [this]
  | 1, h => obtain rfl := Option.some.inj h; simp [this]
  | k + 2, h => simp at h
theorem all_next {m : Msg} {i : Nat} {rs : List Rec} (hall : ∀ (j : Nat) (rs : List Rec), [m.ans, m.auth][j]? = some rs → j < i → rs.all rightR = true) (h : [m.ans, m.auth][i]? = some rs) (hd : rs.all rightR = true) : ∀ (j : Nat) (rs : List Rec), [m.ans, m.auth][j]? = some rs → j < i + 1 → rs.all rightR = true := by
  intro j q hq hj
  by_cases e : j = i
  · subst e; rw [h] at hq; obtain rfl := Option.some.inj hq; exact hd
  · exact hall j q hq (by omega)
theorem all_take {rs : List Rec} {j : Nat} {x : Rec} (hx : rs[j]? = some x) (hr : rightR x = true) (h : (rs.take j).all rightR = true) : (rs.take (j + 1)).all rightR = true := by
  have hlt := (List.getElem?_eq_some_iff.1 hx).1
  have hv := (List.getElem?_eq_some_iff.1 hx).2
  rw [List.take_succ_eq_append_getElem hlt, hv, List.all_append, h]
  simp [hr]

/-- Short enough for the machine. -/
def Rec.small (r : Rec) : Prop := r.name.length ≤ 1099511627776 ∧ r.text.length ≤ 1099511627776 ∧ r.data.length ≤ 1099511627776
def Msg.small (m : Msg) : Prop := m.qname.length ≤ 1099511627776 ∧ m.ans.length ≤ 1099511627776 ∧ m.auth.length ≤ 1099511627776 ∧ ∀ r ∈ m.ans ++ m.auth, r.small

theorem all_any (m : Msg) (v : Value) (w0 : World) (hm : MV w0 v m) (hG : Glob w0) (hs : m.small) :
    Calls Tryd.prog 30 #[v] w0 fun e w' => e = .returned (.bool (allM m)) ∧ Chg (fun _ => False) w0 w' := by
  obtain ⟨va, vb, rfl, hva, hvb⟩ := hm
  obtain ⟨Aa, ca, rfl, _⟩ := hva.form
  obtain ⟨Ab, cb, rfl, _⟩ := hvb.form
  obtain ⟨hl1, hl2, hl3, hsm⟩ := hs
  refine calls_cw (args := [.agg (m.cells (.slice Aa m.ans.length ca) (.slice Ab m.auth.length cb)).toArray]) Tryd.func30 rfl rfl ?_
  show CW _ _ _ 73 [(0, .agg (m.cells (.slice Aa m.ans.length ca) (.slice Ab m.auth.length cb)).toArray)] w0
  refine CW.rseq ?_
  refine WL.eff rfl (OP.box (by decide) rfl ?_)
  intro w1 hc1 hs1 hB
  have hC := hc1
  have hG := hG.kept hc1 (fun h => h)
  have hva := hva.kept hc1 (fun _ _ h => h)
  have hvb := hvb.kept hc1 (fun _ _ h => h)
  refine WL.op (by decide) (R.assign rfl) ?_
  refine WL.next ?_
  refine CW.seq ?_
  refine CW.rseq ?_
  refine WL.op (by decide) (FA33_0 rfl) ?_
  refine WL.op (by decide) (R.load Tryd.underlying3 rfl rfl (cell_at hB rfl)) ?_
  refine WL.lssS (by decide) rfl rfl (fun h1 => ?_) (fun h1 => ?_)
  · skip
    refine WL.op (by decide) (R.move rfl) ?_
    refine WL.pass (by decide) rfl rfl rfl ?_
    refine WL.pass (by decide) rfl rfl rfl ?_
    refine WL.pass (by decide) rfl rfl rfl ?_
    refine WL.op (by decide) (R.pickT rfl rfl) ?_
    refine WL.op (by decide) (R.move rfl) ?_
    refine WL.pass (by decide) rfl rfl rfl ?_
    refine WL.pass (by decide) rfl rfl rfl ?_
    refine WL.pass (by decide) rfl rfl rfl ?_
    refine WL.op (by decide) (R.pickT rfl rfl) ?_
    refine WL.op (by decide) (R.move rfl) ?_
    refine WL.pass (by decide) rfl rfl rfl ?_
    refine WL.pass (by decide) rfl rfl rfl ?_
    refine WL.pass (by decide) rfl rfl rfl ?_
    refine WL.op (by decide) (R.pickT rfl rfl) ?_
    refine WL.op (by decide) (R.move rfl) ?_
    refine WL.pass (by decide) rfl rfl rfl ?_
    refine WL.pass (by decide) rfl rfl rfl ?_
    refine WL.pass (by decide) rfl rfl rfl ?_
    refine WL.pass (by decide) rfl rfl rfl ?_
    refine WL.pass (by decide) rfl rfl rfl ?_
    refine WL.op (by decide) (R.pickT rfl rfl) ?_
    refine WL.op (by decide) (R.move rfl) ?_
    refine WL.pass (by decide) rfl rfl rfl ?_
    refine WL.pass (by decide) rfl rfl rfl ?_
    refine WL.pass (by decide) rfl rfl rfl ?_
    refine WL.pass (by decide) rfl rfl rfl ?_
    refine WL.op (by decide) (R.pickT rfl rfl) ?_
    refine WL.op (by decide) (R.move rfl) ?_
    refine WL.pass (by decide) rfl rfl rfl ?_
    refine WL.pass (by decide) rfl rfl rfl ?_
    refine WL.pass (by decide) rfl rfl rfl ?_
    refine WL.pass (by decide) rfl rfl rfl ?_
    refine WL.op (by decide) (R.pickT rfl rfl) ?_
    refine WL.op (by decide) (R.move rfl) ?_
    refine WL.pass (by decide) rfl rfl rfl ?_
    refine WL.pass (by decide) rfl rfl rfl ?_
    refine WL.pass (by decide) rfl rfl rfl ?_
    refine WL.pass (by decide) rfl rfl rfl ?_
    refine WL.pass (by decide) rfl rfl rfl ?_
    refine WL.pass (by decide) rfl rfl rfl ?_
    refine WL.pass (by decide) rfl rfl rfl ?_
    refine WL.pass (by decide) rfl rfl rfl ?_
    refine WL.op (by decide) (R.pickT rfl rfl) ?_
    refine WL.next ?_
    refine CW.condT rfl ?_
    refine CW.rseq ?_
    refine WL.op (by decide) (R.assign rfl) ?_
    refine WL.next ?_
    refine CW.ret ?_
    refine EW.thenRet ?_
    refine EW.ret1 (.inl rfl) rfl rfl ⟨?_, hC⟩
    exact congrArg (fun b => Ending.returned (.bool b)) (show _ = allM m from by unfold allM; first | (simp [*]; done) | (simp [*]; omega) | (simp [*]; intros; omega))
  · skip
    refine WL.op (by decide) (R.move rfl) ?_
    refine WL.gop (by decide) rfl rfl rfl (FA33_0 rfl) ?_
    refine WL.gop (by decide) rfl rfl rfl (R.load Tryd.underlying3 rfl rfl (cell_at hB rfl)) ?_
    refine WL.gsplit _ (by decide) rfl rfl rfl (R.gtrD rfl rfl) (fun h2 => ?_) (fun h2 => ?_)
    · skip
      refine WL.op (by decide) (R.pickF rfl rfl) ?_
      refine WL.op (by decide) (R.move rfl) ?_
      refine WL.pass (by decide) rfl rfl rfl ?_
      refine WL.pass (by decide) rfl rfl rfl ?_
      refine WL.pass (by decide) rfl rfl rfl ?_
      refine WL.op (by decide) (R.pickT rfl rfl) ?_
      refine WL.op (by decide) (R.move rfl) ?_
      refine WL.pass (by decide) rfl rfl rfl ?_
      refine WL.pass (by decide) rfl rfl rfl ?_
      refine WL.pass (by decide) rfl rfl rfl ?_
      refine WL.op (by decide) (R.pickT rfl rfl) ?_
      refine WL.op (by decide) (R.move rfl) ?_
      refine WL.pass (by decide) rfl rfl rfl ?_
      refine WL.pass (by decide) rfl rfl rfl ?_
      refine WL.pass (by decide) rfl rfl rfl ?_
      refine WL.pass (by decide) rfl rfl rfl ?_
      refine WL.pass (by decide) rfl rfl rfl ?_
      refine WL.op (by decide) (R.pickT rfl rfl) ?_
      refine WL.op (by decide) (R.move rfl) ?_
      refine WL.pass (by decide) rfl rfl rfl ?_
      refine WL.pass (by decide) rfl rfl rfl ?_
      refine WL.pass (by decide) rfl rfl rfl ?_
      refine WL.pass (by decide) rfl rfl rfl ?_
      refine WL.op (by decide) (R.pickT rfl rfl) ?_
      refine WL.op (by decide) (R.move rfl) ?_
      refine WL.pass (by decide) rfl rfl rfl ?_
      refine WL.pass (by decide) rfl rfl rfl ?_
      refine WL.pass (by decide) rfl rfl rfl ?_
      refine WL.pass (by decide) rfl rfl rfl ?_
      refine WL.op (by decide) (R.pickT rfl rfl) ?_
      refine WL.op (by decide) (R.move rfl) ?_
      refine WL.pass (by decide) rfl rfl rfl ?_
      refine WL.pass (by decide) rfl rfl rfl ?_
      refine WL.pass (by decide) rfl rfl rfl ?_
      refine WL.pass (by decide) rfl rfl rfl ?_
      refine WL.pass (by decide) rfl rfl rfl ?_
      refine WL.pass (by decide) rfl rfl rfl ?_
      refine WL.pass (by decide) rfl rfl rfl ?_
      refine WL.pass (by decide) rfl rfl rfl ?_
      refine WL.op (by decide) (R.pickT rfl rfl) ?_
      refine WL.next ?_
      refine CW.condT rfl ?_
      refine CW.rseq ?_
      refine WL.op (by decide) (R.assign rfl) ?_
      refine WL.next ?_
      refine CW.ret ?_
      refine EW.thenRet ?_
      refine EW.ret1 (.inl rfl) rfl rfl ⟨?_, hC⟩
      exact congrArg (fun b => Ending.returned (.bool b)) (show _ = allM m from by unfold allM; first | (simp [*]; done) | (simp [*]; omega) | (simp [*]; intros; omega))
    · skip
      refine WL.op (by decide) (R.pickF rfl rfl) ?_
      refine WL.op (by decide) (R.move rfl) ?_
      refine WL.gop (by decide) rfl rfl rfl (FA33_4 rfl) ?_
      refine WL.gop (by decide) rfl rfl rfl (R.load Tryd.underlying3 rfl rfl (cell_at hB rfl)) ?_
      refine WL.gsplit _ (by decide) rfl rfl rfl (R.lssD rfl rfl) (fun h3 => ?_) (fun h3 => ?_)
      · skip
        refine WL.op (by decide) (R.pickF rfl rfl) ?_
        refine WL.op (by decide) (R.move rfl) ?_
        refine WL.pass (by decide) rfl rfl rfl ?_
        refine WL.pass (by decide) rfl rfl rfl ?_
        refine WL.pass (by decide) rfl rfl rfl ?_
        refine WL.op (by decide) (R.pickT rfl rfl) ?_
        refine WL.op (by decide) (R.move rfl) ?_
        refine WL.pass (by decide) rfl rfl rfl ?_
        refine WL.pass (by decide) rfl rfl rfl ?_
        refine WL.pass (by decide) rfl rfl rfl ?_
        refine WL.pass (by decide) rfl rfl rfl ?_
        refine WL.pass (by decide) rfl rfl rfl ?_
        refine WL.op (by decide) (R.pickT rfl rfl) ?_
        refine WL.op (by decide) (R.move rfl) ?_
        refine WL.pass (by decide) rfl rfl rfl ?_
        refine WL.pass (by decide) rfl rfl rfl ?_
        refine WL.pass (by decide) rfl rfl rfl ?_
        refine WL.pass (by decide) rfl rfl rfl ?_
        refine WL.op (by decide) (R.pickT rfl rfl) ?_
        refine WL.op (by decide) (R.move rfl) ?_
        refine WL.pass (by decide) rfl rfl rfl ?_
        refine WL.pass (by decide) rfl rfl rfl ?_
        refine WL.pass (by decide) rfl rfl rfl ?_
        refine WL.pass (by decide) rfl rfl rfl ?_
        refine WL.op (by decide) (R.pickT rfl rfl) ?_
        refine WL.op (by decide) (R.move rfl) ?_
        refine WL.pass (by decide) rfl rfl rfl ?_
        refine WL.pass (by decide) rfl rfl rfl ?_
        refine WL.pass (by decide) rfl rfl rfl ?_
        refine WL.pass (by decide) rfl rfl rfl ?_
        refine WL.pass (by decide) rfl rfl rfl ?_
        refine WL.pass (by decide) rfl rfl rfl ?_
        refine WL.pass (by decide) rfl rfl rfl ?_
        refine WL.pass (by decide) rfl rfl rfl ?_
        refine WL.op (by decide) (R.pickT rfl rfl) ?_
        refine WL.next ?_
        refine CW.condT rfl ?_
        refine CW.rseq ?_
        refine WL.op (by decide) (R.assign rfl) ?_
        refine WL.next ?_
        refine CW.ret ?_
        refine EW.thenRet ?_
        refine EW.ret1 (.inl rfl) rfl rfl ⟨?_, hC⟩
        exact congrArg (fun b => Ending.returned (.bool b)) (show _ = allM m from by unfold allM; first | (simp [*]; done) | (simp [*]; omega) | (simp [*]; intros; omega))
      · skip
        refine WL.op (by decide) (R.pickF rfl rfl) ?_
        refine WL.op (by decide) (R.move rfl) ?_
        refine WL.gop (by decide) rfl rfl rfl (FA33_4 rfl) ?_
        refine WL.gop (by decide) rfl rfl rfl (R.load Tryd.underlying3 rfl rfl (cell_at hB rfl)) ?_
        refine WL.gsplit _ (by decide) rfl rfl rfl (R.gtrD rfl rfl) (fun h4 => ?_) (fun h4 => ?_)
        · skip
          refine WL.op (by decide) (R.pickF rfl rfl) ?_
          refine WL.op (by decide) (R.move rfl) ?_
          refine WL.pass (by decide) rfl rfl rfl ?_
          refine WL.pass (by decide) rfl rfl rfl ?_
          refine WL.pass (by decide) rfl rfl rfl ?_
          refine WL.pass (by decide) rfl rfl rfl ?_
          refine WL.pass (by decide) rfl rfl rfl ?_
          refine WL.op (by decide) (R.pickT rfl rfl) ?_
          refine WL.op (by decide) (R.move rfl) ?_
          refine WL.pass (by decide) rfl rfl rfl ?_
          refine WL.pass (by decide) rfl rfl rfl ?_
          refine WL.pass (by decide) rfl rfl rfl ?_
          refine WL.pass (by decide) rfl rfl rfl ?_
          refine WL.op (by decide) (R.pickT rfl rfl) ?_
          refine WL.op (by decide) (R.move rfl) ?_
          refine WL.pass (by decide) rfl rfl rfl ?_
          refine WL.pass (by decide) rfl rfl rfl ?_
          refine WL.pass (by decide) rfl rfl rfl ?_
          refine WL.pass (by decide) rfl rfl rfl ?_
          refine WL.op (by decide) (R.pickT rfl rfl) ?_
          refine WL.op (by decide) (R.move rfl) ?_
          refine WL.pass (by decide) rfl rfl rfl ?_
          refine WL.pass (by decide) rfl rfl rfl ?_
          refine WL.pass (by decide) rfl rfl rfl ?_
          refine WL.pass (by decide) rfl rfl rfl ?_
          refine WL.pass (by decide) rfl rfl rfl ?_
          refine WL.pass (by decide) rfl rfl rfl ?_
          refine WL.pass (by decide) rfl rfl rfl ?_
          refine WL.pass (by decide) rfl rfl rfl ?_
          refine WL.op (by decide) (R.pickT rfl rfl) ?_
          refine WL.next ?_
          refine CW.condT rfl ?_
          refine CW.rseq ?_
          refine WL.op (by decide) (R.assign rfl) ?_
          refine WL.next ?_
          refine CW.ret ?_
          refine EW.thenRet ?_
          refine EW.ret1 (.inl rfl) rfl rfl ⟨?_, hC⟩
          exact congrArg (fun b => Ending.returned (.bool b)) (show _ = allM m from by unfold allM; first | (simp [*]; done) | (simp [*]; omega) | (simp [*]; intros; omega))
        · skip
          refine WL.op (by decide) (R.pickF rfl rfl) ?_
          refine WL.op (by decide) (R.move rfl) ?_
          refine WL.gop (by decide) rfl rfl rfl (FA33_5 rfl) ?_
          refine WL.gop (by decide) rfl rfl rfl (FA25_0 rfl) ?_
          refine WL.gop (by decide) rfl rfl rfl (R.load Tryd.underlying9 rfl rfl (cell_at hB rfl)) ?_
          refine WL.geff rfl rfl rfl (OP.call (by decide) Tryd.func50 (by kernel_rfl) (by kernel_rfl) rfl (names_any m.qname w1 hl1) ?_)
          rintro e w2 ⟨rfl, hc2⟩
          refine ⟨_, rfl, ?_⟩
          have hB := hc2.at hB (fun h => h)
          have hC := hC.trans hc2
          have hG := hG.kept hc2 (fun h => h)
          have hva := hva.kept hc2 (fun _ _ h => h)
          have hvb := hvb.kept hc2 (fun _ _ h => h)
          cases hn : namesL m.qname
          · skip
            refine WL.gop (by decide) rfl rfl rfl (R.not rfl) ?_
            refine WL.op (by decide) (R.pickF rfl rfl) ?_
            refine WL.op (by decide) (R.move rfl) ?_
            refine WL.pass (by decide) rfl rfl rfl ?_
            refine WL.pass (by decide) rfl rfl rfl ?_
            refine WL.pass (by decide) rfl rfl rfl ?_
            refine WL.pass (by decide) rfl rfl rfl ?_
            refine WL.op (by decide) (R.pickT rfl rfl) ?_
            refine WL.op (by decide) (R.move rfl) ?_
            refine WL.pass (by decide) rfl rfl rfl ?_
            refine WL.pass (by decide) rfl rfl rfl ?_
            refine WL.pass (by decide) rfl rfl rfl ?_
            refine WL.pass (by decide) rfl rfl rfl ?_
            refine WL.op (by decide) (R.pickT rfl rfl) ?_
            refine WL.op (by decide) (R.move rfl) ?_
            refine WL.pass (by decide) rfl rfl rfl ?_
            refine WL.pass (by decide) rfl rfl rfl ?_
            refine WL.pass (by decide) rfl rfl rfl ?_
            refine WL.pass (by decide) rfl rfl rfl ?_
            refine WL.pass (by decide) rfl rfl rfl ?_
            refine WL.pass (by decide) rfl rfl rfl ?_
            refine WL.pass (by decide) rfl rfl rfl ?_
            refine WL.pass (by decide) rfl rfl rfl ?_
            refine WL.op (by decide) (R.pickT rfl rfl) ?_
            refine WL.next ?_
            refine CW.condT rfl ?_
            refine CW.rseq ?_
            refine WL.op (by decide) (R.assign rfl) ?_
            refine WL.next ?_
            refine CW.ret ?_
            refine EW.thenRet ?_
            refine EW.ret1 (.inl rfl) rfl rfl ⟨?_, hC⟩
            exact congrArg (fun b => Ending.returned (.bool b)) (show _ = allM m from by unfold allM; first | (simp [*]; done) | (simp [*]; omega) | (simp [*]; intros; omega))
          · skip
            refine WL.gop (by decide) rfl rfl rfl (R.not rfl) ?_
            refine WL.op (by decide) (R.pickF rfl rfl) ?_
            refine WL.op (by decide) (R.move rfl) ?_
            refine WL.gop (by decide) rfl rfl rfl (FA33_5 rfl) ?_
            refine WL.gop (by decide) rfl rfl rfl (FA25_1 rfl) ?_
            refine WL.gop (by decide) rfl rfl rfl (R.load Tryd.underlying3 rfl rfl (cell_at hB rfl)) ?_
            refine WL.gsplit _ (by decide) rfl rfl rfl (R.lssD rfl rfl) (fun h5 => ?_) (fun h5 => ?_)
            · skip
              refine WL.op (by decide) (R.pickF rfl rfl) ?_
              refine WL.op (by decide) (R.move rfl) ?_
              refine WL.pass (by decide) rfl rfl rfl ?_
              refine WL.pass (by decide) rfl rfl rfl ?_
              refine WL.pass (by decide) rfl rfl rfl ?_
              refine WL.pass (by decide) rfl rfl rfl ?_
              refine WL.op (by decide) (R.pickT rfl rfl) ?_
              refine WL.op (by decide) (R.move rfl) ?_
              refine WL.pass (by decide) rfl rfl rfl ?_
              refine WL.pass (by decide) rfl rfl rfl ?_
              refine WL.pass (by decide) rfl rfl rfl ?_
              refine WL.pass (by decide) rfl rfl rfl ?_
              refine WL.pass (by decide) rfl rfl rfl ?_
              refine WL.pass (by decide) rfl rfl rfl ?_
              refine WL.pass (by decide) rfl rfl rfl ?_
              refine WL.pass (by decide) rfl rfl rfl ?_
              refine WL.op (by decide) (R.pickT rfl rfl) ?_
              refine WL.next ?_
              refine CW.condT rfl ?_
              refine CW.rseq ?_
              refine WL.op (by decide) (R.assign rfl) ?_
              refine WL.next ?_
              refine CW.ret ?_
              refine EW.thenRet ?_
              refine EW.ret1 (.inl rfl) rfl rfl ⟨?_, hC⟩
              exact congrArg (fun b => Ending.returned (.bool b)) (show _ = allM m from by unfold allM; first | (simp [*]; done) | (simp [*]; omega) | (simp [*]; intros; omega))
            · skip
              refine WL.op (by decide) (R.pickF rfl rfl) ?_
              refine WL.op (by decide) (R.move rfl) ?_
              refine WL.gop (by decide) rfl rfl rfl (FA33_5 rfl) ?_
              refine WL.gop (by decide) rfl rfl rfl (FA25_1 rfl) ?_
              refine WL.gop (by decide) rfl rfl rfl (R.load Tryd.underlying3 rfl rfl (cell_at hB rfl)) ?_
              refine WL.gsplit _ (by decide) rfl rfl rfl (R.gtrD rfl rfl) (fun h6 => ?_) (fun h6 => ?_)
              · skip
                refine WL.op (by decide) (R.pickF rfl rfl) ?_
                refine WL.op (by decide) (R.move rfl) ?_
                refine WL.pass (by decide) rfl rfl rfl ?_
                refine WL.pass (by decide) rfl rfl rfl ?_
                refine WL.pass (by decide) rfl rfl rfl ?_
                refine WL.pass (by decide) rfl rfl rfl ?_
                refine WL.pass (by decide) rfl rfl rfl ?_
                refine WL.pass (by decide) rfl rfl rfl ?_
                refine WL.pass (by decide) rfl rfl rfl ?_
                refine WL.pass (by decide) rfl rfl rfl ?_
                refine WL.op (by decide) (R.pickT rfl rfl) ?_
                refine WL.next ?_
                refine CW.condT rfl ?_
                refine CW.rseq ?_
                refine WL.op (by decide) (R.assign rfl) ?_
                refine WL.next ?_
                refine CW.ret ?_
                refine EW.thenRet ?_
                refine EW.ret1 (.inl rfl) rfl rfl ⟨?_, hC⟩
                exact congrArg (fun b => Ending.returned (.bool b)) (show _ = allM m from by unfold allM; first | (simp [*]; done) | (simp [*]; omega) | (simp [*]; intros; omega))
              · skip
                refine WL.op (by decide) (R.pickF rfl rfl) ?_
                refine WL.op (by decide) (R.move rfl) ?_
                refine WL.gop (by decide) rfl rfl rfl (FA33_6 rfl) ?_
                refine WL.gop (by decide) rfl rfl rfl (R.load Tryd.underlying31 rfl rfl (cell_at hB rfl)) ?_
                refine WL.gop (by decide) rfl rfl rfl (R.lenSlice rfl Tryd.underlying31 rfl) ?_
                refine WL.gop (by decide) rfl rfl rfl (FA33_7 rfl) ?_
                refine WL.gop (by decide) rfl rfl rfl (R.load Tryd.underlying31 rfl rfl (cell_at hB rfl)) ?_
                refine WL.gop (by decide) rfl rfl rfl (R.lenSlice rfl Tryd.underlying31 rfl) ?_
                refine WL.gop (by decide) rfl rfl rfl (R.add rfl rfl (by omega)) ?_
                refine WL.gsplit _ (by decide) rfl rfl rfl (R.gtrD rfl rfl) (fun h7 => ?_) (fun h7 => ?_)
                · skip
                  refine WL.op (by decide) (R.pickF rfl rfl) ?_
                  refine WL.next ?_
                  refine CW.condT rfl ?_
                  refine CW.rseq ?_
                  refine WL.op (by decide) (R.assign rfl) ?_
                  refine WL.next ?_
                  refine CW.ret ?_
                  refine EW.thenRet ?_
                  refine EW.ret1 (.inl rfl) rfl rfl ⟨?_, hC⟩
                  exact congrArg (fun b => Ending.returned (.bool b)) (show _ = allM m from by unfold allM; first | (simp [*]; done) | (simp [*]; omega) | (simp [*]; intros; omega))
                · skip
                  refine WL.op (by decide) (R.pickF rfl rfl) ?_
                  refine WL.next ?_
                  refine CW.condF rfl ?_
                  refine CW.skip ?_
                  refine EW.next ?_
                  refine CW.seq ?_
                  refine CW.rseq ?_
                  refine WL.op (by decide) (FA33_6 rfl) ?_
                  refine WL.op (by decide) (R.load Tryd.underlying31 rfl rfl (cell_at hB rfl)) ?_
                  refine WL.op (by decide) (FA33_7 rfl) ?_
                  refine WL.op (by decide) (R.load Tryd.underlying31 rfl rfl (cell_at hB rfl)) ?_
                  refine WL.op (by decide) (R.build (parts := [(0, _), (1, _)]) (vals := [(0, _), (1, _)]) rfl (fun w => build106 _ _ _ _ _ _ w)) ?_
                  refine WL.op (by decide) (R.move rfl) ?_
                  refine WL.next ?_
                  refine CW.block ?_
                  refine CW.loopK [58, 59] (fun k l wr => Chg (fun _ => False) w0 wr ∧ Glob wr ∧ RSl wr (.slice Aa m.ans.length ca) m.ans ∧ RSl wr (.slice Ab m.auth.length cb) m.auth ∧ ∃ (i : Nat) (ii : Int), i + k = 2 ∧ ii = (i : Int) ∧ l = [(58, .agg #[.slice Aa m.ans.length ca, .slice Ab m.auth.length cb]), (59, .int .i64 ii)] ∧ ∀ (j : Nat) (rs : List Rec), [m.ans, m.auth][j]? = some rs → j < i → rs.all rightR = true) (2) ?_ ?_
                  · exact ⟨hC, hG, hva, hvb, 0, 0, by omega, rfl, rfl, fun j rs _ h => by omega⟩
                  · rintro k l wr ⟨hC, hG, hva, hvb, i, ii, hk, rfl, rfl, hall⟩
                    refine CW.rseq ?_
                    refine WL.lssS (by decide) rfl rfl (fun h8 => ?_) (fun h8 => ?_)
                    · skip
                      refine WL.next ?_
                      refine CW.seq ?_
                      refine CW.condT rfl ?_
                      refine CW.skip ?_
                      refine EW.next ?_
                      refine CW.seq ?_
                      refine CW.block ?_
                      refine CW.rseq ?_
                      obtain ⟨rs, A, c, hrs, hv, hsl, hlr⟩ := elem_of hva hvb (i := i) (by omega)
                      have hfalse : rs.all rightR = false → allM m = false := all_bad hrs
                      refine WL.op (by decide) (R.index1 Tryd.underlying106 Tryd.underlying31 rfl sz31 rfl rfl rfl (by omega) hv) ?_
                      refine WL.op (by decide) (R.assign rfl) ?_
                      refine WL.next ?_
                      refine CW.rseq ?_
                      refine WL.op (by decide) (R.move rfl) ?_
                      refine WL.op (by decide) (R.lenSlice rfl Tryd.underlying31 rfl) ?_
                      refine WL.op (by decide) (R.move rfl) ?_
                      refine WL.next ?_
                      refine CW.block ?_
                      refine CW.loopK [58, 59, 62, 63, 64] (fun k l wi => Chg (fun _ => False) w0 wi ∧ Glob wi ∧ RSl wi (.slice Aa m.ans.length ca) m.ans ∧ RSl wi (.slice Ab m.auth.length cb) m.auth ∧ RSl wi (.slice A rs.length c) rs ∧ ∃ (j : Nat) (jj : Int), j + k = rs.length ∧ jj = (j : Int) ∧ l = [(58, .agg #[.slice Aa m.ans.length ca, .slice Ab m.auth.length cb]), (59, .int .i64 i), (62, .slice A rs.length c), (63, .int .i64 rs.length), (64, .int .i64 jj)] ∧ (rs.take j).all rightR = true) (rs.length) ?_ ?_
                      · exact ⟨hC, hG, hva, hvb, hsl, 0, 0, by omega, rfl, rfl, rfl⟩
                      · rintro k2 l wi ⟨hCi, hG2, hva2, hvb2, hsl2, j, jj, hk2, rfl, rfl, htk⟩
                        refine CW.rseq ?_
                        refine WL.lssS (by decide) rfl rfl (fun h9 => ?_) (fun h9 => ?_)
                        · skip
                          refine WL.next ?_
                          refine CW.seq ?_
                          refine CW.condT rfl ?_
                          refine CW.skip ?_
                          refine EW.next ?_
                          refine CW.seq ?_
                          refine CW.block ?_
                          refine CW.rseq ?_
                          obtain ⟨x, hx⟩ : ∃ x, rs[j]? = some x := ⟨rs[j]'(by omega), List.getElem?_eq_getElem _⟩
                          obtain ⟨hx16, _, g, o, rfl, hcell⟩ := hsl2.at hx
                          refine WL.op (by decide) (R.indexAddr1 (i := j) Tryd.underlying31 sz57 rfl rfl rfl (by omega)) ?_
                          refine WL.op (by decide) (R.loadR hx16 rfl hcell) ?_
                          refine WL.eff rfl (OP.allocR (by decide) ?_)
                          intro w3 hc3 hs3 hb3
                          refine WL.eff rfl (OP.storeR rfl rfl hx16 (by rfl) hb3 ?_)
                          intro w4 hc4 hs4 hb4
                          refine WL.next ?_
                          refine CW.rseq ?_
                          refine WL.op (by decide) (R.loadRB hx16 rfl hb4) ?_
                          have hc34 : Chg (fun _ => False) wi w4 := hc3.then hc4 (fun k hk e => by omega)
                          obtain ⟨hx1, hx2, hx3⟩ := hsm x (mem_of hrs hx)
                          refine WL.eff rfl (OP.call (by decide) Tryd.func41 (by kernel_rfl) (by kernel_rfl) rfl (mright_any x w4 hx16 (hG2.kept hc34 (fun h => h)) hx1 hx2 hx3) ?_)
                          rintro e w5 ⟨rfl, hc5⟩
                          refine ⟨_, rfl, ?_⟩
                          have hc35 := hc34.trans hc5
                          have hC := hCi.trans hc35
                          cases hr : rightR x
                          · skip
                            refine WL.op (by decide) (R.not rfl) ?_
                            refine WL.next ?_
                            refine CW.condT rfl ?_
                            refine CW.rseq ?_
                            refine WL.op (by decide) (R.assign rfl) ?_
                            refine WL.next ?_
                            refine CW.ret ?_
                            refine EW.inRet ?_
                            refine EW.thenRet ?_
                            refine EW.thenRet ?_
                            refine EW.inRet ?_
                            refine EW.inRet ?_
                            refine EW.thenRet ?_
                            refine EW.thenRet ?_
                            refine EW.inRet ?_
                            refine EW.thenRet ?_
                            refine EW.ret1 (.inl rfl) rfl rfl ⟨?_, hC⟩
                            exact congrArg (fun b => Ending.returned (.bool b)) (show _ = allM m from (hfalse (all_false hx hr)).symm)
                          · skip
                            refine WL.op (by decide) (R.not rfl) ?_
                            refine WL.next ?_
                            refine CW.condF rfl ?_
                            refine CW.skip ?_
                            refine EW.inNormal ?_
                            refine EW.next ?_
                            refine CW.region ?_
                            refine WL.op (by decide) (R.add rfl rfl (by omega)) ?_
                            refine WL.op (by decide) (R.move rfl) ?_
                            refine WL.nil ?_
                            exact EW.roundK [58, 59, 62, 63, 64] (k2 - 1) (by omega) ⟨hC, hG2.kept hc35 (fun h => h), hva2.kept hc35 (fun _ _ h => h), hvb2.kept hc35 (fun _ _ h => h), hsl2.kept hc35 (fun _ _ h => h), j + 1, _, by omega, by omega, rfl, all_take hx hr htk⟩
                        · skip
                          refine WL.next ?_
                          refine CW.seq ?_
                          refine CW.condF rfl ?_
                          refine CW.exit ?_
                          have hdone : rs.all rightR = true := by rwa [List.take_of_length_le (by omega)] at htk
                          refine EW.thenExit ?_
                          refine EW.thenExit ?_
                          refine EW.inHere ?_
                          refine EW.inNormal ?_
                          refine EW.next ?_
                          refine CW.region ?_
                          refine WL.op (by decide) (R.add rfl rfl (by omega)) ?_
                          refine WL.op (by decide) (R.move rfl) ?_
                          refine WL.nil ?_
                          exact EW.roundK [58, 59] (k - 1) (by omega) ⟨hCi, hG2, hva2, hvb2, i + 1, _, by omega, by omega, rfl, all_next hall hrs hdone⟩
                    · skip
                      refine WL.next ?_
                      refine CW.seq ?_
                      refine CW.condF rfl ?_
                      refine CW.exit ?_
                      refine EW.thenExit ?_
                      refine EW.thenExit ?_
                      refine EW.inHere ?_
                      refine EW.next ?_
                      refine CW.rseq ?_
                      refine WL.op (by decide) (R.assign rfl) ?_
                      refine WL.next ?_
                      refine CW.ret ?_
                      refine EW.ret1 (.inl rfl) rfl rfl ⟨?_, hC⟩
                      have ha := hall 0 _ rfl (by omega)
                      have hb := hall 1 _ rfl (by omega)
                      exact congrArg (fun b => Ending.returned (.bool b)) (show _ = allM m from by unfold allM; simp [*]; omega)
end Go.Proofs.YthcpjcgjmdfpjaaDoor

namespace Go.Proofs.YthcpjcgjmdfpjaaDoor

/-- A name's labels from a place on; 'r': where the reader goes on behind it. -/
def rdName (bs : List UInt8) : Nat → Nat → Nat → Nat → List (List UInt8) → Nat → Option (List UInt8 × Nat)
  | 0, _, _, _, _, _ => none
  | f + 1, a, hops, size, acc, r =>
    match bs[a]? with
    | none => none
    | some c =>
      if c.toNat = 0 then (if namesL (joinL acc) then some (joinL acc, if hops = 0 then a + 1 else r) else none)
      else if 192 ≤ c.toNat then
        match bs[a + 1]? with
        | none => none
        | some c2 => if hops = 16 then none else if a ≤ c.toNat % 64 * 256 + c2.toNat then none
          else rdName bs f (c.toNat % 64 * 256 + c2.toNat) (hops + 1) size acc (if hops = 0 then a + 2 else r)
      else if 63 < c.toNat ∨ bs.length < a + 1 + c.toNat ∨ 254 < size + (c.toNat + 1) then none
      else rdName bs f (a + 1 + c.toNat) hops (size + (c.toNat + 1)) (acc ++ [lower ((bs.drop (a + 1)).take c.toNat)]) r

section
variable {bs : List UInt8} {f a hops size : Nat} {acc : List (List UInt8)} {r : Nat} {c c2 : UInt8}
theorem rd_end (h : bs.length ≤ a) : rdName bs f a hops size acc r = none := by
  cases f with
  | zero => rfl
  | succ f => simp [rdName, List.getElem?_eq_none h]
theorem rd_zero (hc : bs[a]? = some c) (h0 : c.toNat = 0) : rdName bs (f + 1) a hops size acc r = if namesL (joinL acc) then some (joinL acc, if hops = 0 then a + 1 else r) else none := by
  simp only [rdName, hc, h0, if_true]
theorem rd_ptr_end (hc : bs[a]? = some c) (h0 : 192 ≤ c.toNat) (h : bs.length ≤ a + 1) : rdName bs (f + 1) a hops size acc r = none := by
  simp only [rdName, hc, List.getElem?_eq_none h]
  rw [if_neg (by omega), if_pos h0]
theorem rd_ptr_many (hc : bs[a]? = some c) (h0 : 192 ≤ c.toNat) (h : hops = 16) : rdName bs (f + 1) a hops size acc r = none := by
  simp only [rdName, hc]
  rw [if_neg (by omega), if_pos h0]
  cases bs[a + 1]? with
  | none => rfl
  | some c2 => simp only; rw [if_pos h]
theorem rd_ptr_ahead (hc : bs[a]? = some c) (h0 : 192 ≤ c.toNat) (hc2 : bs[a + 1]? = some c2) (h : a ≤ c.toNat % 64 * 256 + c2.toNat) : rdName bs (f + 1) a hops size acc r = none := by
  simp only [rdName, hc, hc2]
  rw [if_neg (by omega), if_pos h0]
  split <;> first | rfl | (rw [if_pos h])
theorem rd_ptr (hc : bs[a]? = some c) (h0 : 192 ≤ c.toNat) (hc2 : bs[a + 1]? = some c2) (hh : ¬ hops = 16) (h : ¬ a ≤ c.toNat % 64 * 256 + c2.toNat) :
    rdName bs (f + 1) a hops size acc r = rdName bs f (c.toNat % 64 * 256 + c2.toNat) (hops + 1) size acc (if hops = 0 then a + 2 else r) := by
  simp only [rdName, hc, hc2]
  rw [if_neg (by omega), if_pos h0, if_neg hh, if_neg h]
theorem rd_lab_bad (hc : bs[a]? = some c) (h0 : ¬ c.toNat = 0) (h1 : ¬ 192 ≤ c.toNat) (h : 63 < c.toNat ∨ bs.length < a + 1 + c.toNat ∨ 254 < size + (c.toNat + 1)) : rdName bs (f + 1) a hops size acc r = none := by
  simp only [rdName, hc]
  rw [if_neg h0, if_neg h1, if_pos h]
theorem rd_lab (hc : bs[a]? = some c) (h0 : ¬ c.toNat = 0) (h1 : ¬ 192 ≤ c.toNat) (h : ¬ (63 < c.toNat ∨ bs.length < a + 1 + c.toNat ∨ 254 < size + (c.toNat + 1))) :
    rdName bs (f + 1) a hops size acc r = rdName bs f (a + 1 + c.toNat) hops (size + (c.toNat + 1)) (acc ++ [lower ((bs.drop (a + 1)).take c.toNat)]) r := by
  simp only [rdName, hc]
  rw [if_neg h0, if_neg h1, if_neg h]
end

/-- What a name's reading leaves. -/
def NameRes (res : Option (List UInt8 × Nat)) (s : List UInt8) (a : Nat) (bad : Bool) : Prop :=
  match res with
  | some (s0, a0) => s = s0 ∧ a = a0 ∧ bad = false
  | none => s = [] ∧ bad = true
theorem NameRes.none {a : Nat} {res : Option (List UInt8 × Nat)} (h : res = none) : NameRes res [] a true := by subst h; exact ⟨rfl, rfl⟩

theorem joinL_snoc_length (acc : List (List UInt8)) (x : List UInt8) : (joinL (acc ++ [x])).length ≤ (joinL acc).length + (x.length + 1) := by
  rw [joinL_snoc]
  split
  · rename_i h; subst h; simp [joinL]
  · simp

theorem binOp_and63 (t : TypeId) (c : UInt8) : binOp .and t (.int .i64 (c.toNat : Int)) (.int .i64 63) = pure (.int .i64 ((c.toNat % 64 : Nat) : Int)) := by
  have hc := c.toNat_lt
  simp only [binOp, Op.intBits, ne_eq, not_true, ite_false]
  have hb : ∀ k : Nat, k < 18446744073709551616 → (BitVec.ofInt IntKind.i64.bits (k : Int)).toNat = k := by
    intro k hk
    show (BitVec.ofInt 64 (k : Int)).toNat = k
    simp [BitVec.toNat_ofInt]; omega
  have e : (BitVec.ofInt IntKind.i64.bits (c.toNat : Int) &&& BitVec.ofInt IntKind.i64.bits 63).toNat = c.toNat % 64 := by
    rw [BitVec.toNat_and, hb _ (by omega), show (BitVec.ofInt IntKind.i64.bits 63).toNat = 63 from rfl]
    exact Nat.and_two_pow_sub_one_eq_mod c.toNat 6
  rw [e, IntWalk.i64_in _ (by omega)]
theorem R.and63 {l : Env} {w : World} {x y : Operand} {t ty : TypeId} {P : Program} {c : UInt8} (hx : ev l x = some (.int .i64 (c.toNat : Int))) (hy : ev l y = some (.int .i64 63)) : Runs P l (.binOp .and t x y ty) w (.int .i64 ((c.toNat % 64 : Nat) : Int)) w :=
  R.bin hx hy (binOp_and63 t c)
end Go.Proofs.YthcpjcgjmdfpjaaDoor

namespace Go.Proofs.YthcpjcgjmdfpjaaDoor
open Go Go.RowKit
set_option maxRecDepth 100000

theorem whole_any (rb : Nat) (A : Option Addr) (m c a : Nat) (B : Option Addr) (cap : Nat) (ls : List (List UInt8)) (w : World) (hR : RSt w rb A m c a false)
    (hA : ∀ (j : Nat) (s : List UInt8), ls[j]? = some s → ∃ g o, B = some ⟨g, o, none⟩ ∧ w.cell? ⟨g, o + j, none⟩ = some (sv s)) (hl : (joinL ls).length ≤ 1099511627776) (hn : ls.length ≤ 1099511627776) :
    Calls Tryd.prog 53 #[.pointer (some ⟨rb, 0, none⟩), .slice B ls.length cap] w fun e w' => e = .returned (sv (if namesL (joinL ls) then joinL ls else [])) ∧ RSt w' rb A m c a (!namesL (joinL ls)) ∧ Chg (fun k => k = rb) w w' := by
  refine calls_cw (args := [.pointer (some ⟨rb, 0, none⟩), .slice B ls.length cap]) Tryd.func53 rfl rfl ?_
  show CW _ _ _ 15 [(0, .pointer (some ⟨rb, 0, none⟩)), (1, .slice B ls.length cap)] w
  refine CW.rseq ?_
  refine WL.op (by decide) (R.assign rfl) ?_
  refine WL.next ?_
  refine CW.rseq ?_
  refine WL.op (by decide) (R.move rfl) ?_
  refine WL.eff rfl (OP.call (by decide) Tryd.func52 (by kernel_rfl) (by kernel_rfl) rfl (join_any B cap ls w hA hl hn) ?_)
  rintro e _ ⟨rfl, rfl⟩
  refine ⟨_, rfl, ?_⟩
  refine WL.op (by decide) (R.assign rfl) ?_
  refine WL.next ?_
  refine CW.seq ?_
  refine CW.rseq ?_
  refine WL.op (by decide) (R.move rfl) ?_
  refine WL.eff rfl (OP.call (by decide) Tryd.func50 (by kernel_rfl) (by kernel_rfl) rfl (names_any (joinL ls) w hl) ?_)
  rintro e w1 ⟨rfl, hc1⟩
  refine ⟨_, rfl, ?_⟩
  have hR1 := hc1.at hR (fun h => h)
  cases hb : namesL (joinL ls)
  · skip
    refine WL.op (by decide) (R.not rfl) ?_
    refine WL.next ?_
    refine CW.condT rfl ?_
    refine CW.rseq ?_
    refine WL.op (by decide) (R.move rfl) ?_
    refine WL.op (by decide) (R.nilCheck rfl) ?_
    refine WL.op (by decide) (FA100_2 rfl) ?_
    refine WL.eff rfl (OP.store1 sz4 rfl rfl rfl rfl hR1 (Nat.le_of_ble_eq_true rfl) rfl ?_)
    intro w2 hc2 _ hb2
    refine WL.next ?_
    refine CW.rseq ?_
    refine WL.op (by decide) (R.assign rfl) ?_
    refine WL.next ?_
    refine CW.ret ?_
    refine EW.thenRet ?_
    exact EW.ret1 (.inl rfl) rfl rfl ⟨rfl, hb2, (hc1.mono (fun _ _ h => h.elim)).trans hc2⟩
  · skip
    refine WL.op (by decide) (R.not rfl) ?_
    refine WL.next ?_
    refine CW.condF rfl ?_
    refine CW.skip ?_
    refine EW.next ?_
    refine CW.rseq ?_
    refine WL.op (by decide) (R.move rfl) ?_
    refine WL.op (by decide) (R.assign rfl) ?_
    refine WL.next ?_
    refine CW.ret ?_
    exact EW.ret1 (.inl rfl) rfl rfl ⟨rfl, hR1, hc1.mono (fun _ _ h => h.elim)⟩
end Go.Proofs.YthcpjcgjmdfpjaaDoor

namespace Go.Proofs.YthcpjcgjmdfpjaaDoor
open Go Go.RowKit
set_option maxRecDepth 100000
set_option maxHeartbeats 4000000

theorem SBuf.args {w : World} {base : Nat} {v : Value} {ls : List (List UInt8)} (h : SBuf w base v ls) : ∃ B cap, v = .slice B ls.length cap ∧ ∀ (j : Nat) (s : List UInt8), ls[j]? = some s → ∃ g o, B = some ⟨g, o, none⟩ ∧ w.cell? ⟨g, o + j, none⟩ = some (sv s) := by
  rcases h.open with ⟨rfl, rfl⟩ | ⟨g, cap, rfl, _, _, _, hcell⟩
  · exact ⟨none, 0, rfl, fun j s hj => by simp at hj⟩
  · exact ⟨some ⟨g, 0, none⟩, cap, rfl, fun j s hj => ⟨g, 0, rfl, by rw [Nat.zero_add]; exact hcell j s hj⟩⟩

theorem rname_ok (rb : Nat) (A : Option Addr) (mm c : Nat) (bs : List UInt8) (a : Nat) (w : World) (res : Option (List UInt8 × Nat)) (hR : RSt w rb A mm c a false) (hS : Src w A mm c bs) (hg : ∀ g o, A = some ⟨g, o, none⟩ → g ≠ rb) (ha : a ≤ 1099511627776) (hm : mm ≤ 1099511627776) (hrb : rb < w.heap.size)
    (hres : rdName bs 300 a 0 0 [] a = res) :
    Calls Tryd.prog 46 #[.pointer (some ⟨rb, 0, none⟩)] w fun e w' => ∃ s a' bad', e = .returned (sv s) ∧ RSt w' rb A mm c a' bad' ∧ Chg (fun k => k = rb) w w' ∧ NameRes res s a' bad' := by
  have hlen := hS.len
  have hcap := hS.cap
  have hgl : mm ≠ 0 → ∀ g o, A = some ⟨g, o, none⟩ → g < w.heap.size := by
    intro h0 g o hA
    obtain ⟨g', o', hA', hcell⟩ := hS.cells h0
    rw [hA] at hA'; injection hA' with e; injection e with e1 e2; subst e1
    obtain ⟨b, hb⟩ : ∃ b, bs[0]? = some b := ⟨bs[0]'(by omega), List.getElem?_eq_getElem _⟩
    exact World.block_lt_of_cell? w _ (hcell 0 b hb)
  refine calls_cw (args := [.pointer (some ⟨rb, 0, none⟩)]) Tryd.func46 rfl rfl ?_
  show CW _ _ _ 141 [(0, .pointer (some ⟨rb, 0, none⟩))] w
  refine CW.rseq ?_
  refine WL.op (by decide) (R.assign rfl) ?_
  refine WL.next ?_
  refine CW.rseq ?_
  refine WL.op (by decide) (R.assign rfl) ?_
  refine WL.next ?_
  refine CW.rseq ?_
  refine WL.op (by decide) (R.move rfl) ?_
  refine WL.op (by decide) (R.nilCheck rfl) ?_
  refine WL.op (by decide) (FA100_1 rfl) ?_
  refine WL.op (by decide) (R.load Tryd.underlying3 rfl rfl (cell_at hR rfl)) ?_
  refine WL.op (by decide) (R.assign rfl) ?_
  refine WL.op (by decide) (R.assign rfl) ?_
  refine WL.op (by decide) (R.assign rfl) ?_
  refine WL.next ?_
  refine CW.seq ?_
  refine CW.block ?_
  refine CW.loopK [0, 3, 4, 5, 6] (fun m l wr => (∃ (a hops size : Nat) (acc : List (List UInt8)) (r : Nat) (v : Value) (ia ih isz : Int), l = [(0, .pointer (some ⟨rb, 0, none⟩)), (3, v), (4, .int .i64 ia), (5, .int .i64 ih), (6, .int .i64 isz)] ∧ ia = (a : Int) ∧ ih = (hops : Int) ∧ isz = (size : Int) ∧ hops ≤ 16 ∧ size ≤ 254 ∧ 300 ≤ m + hops + size ∧ rdName bs m a hops size acc r = res ∧ RSt wr rb A mm c r false ∧ Chg (fun k => k = rb) w wr ∧ Src wr A mm c bs ∧ SBuf wr w.heap.size v acc ∧ (joinL acc).length ≤ size ∧ acc.length ≤ size) ∨ (∃ (r : Nat) (v1 v2 v3 v4 : Value), l = [(0, .pointer (some ⟨rb, 0, none⟩)), (3, v1), (4, v2), (5, v3), (6, v4)] ∧ RSt wr rb A mm c r true ∧ Chg (fun k => k = rb) w wr ∧ res = none)) (300) ?_ ?_
  · exact Or.inl ⟨a, 0, 0, [], a, _, _, _, _, rfl, rfl, rfl, rfl, by omega, by omega, by omega, hres, hR, Chg.refl _ _, hS, World.ownsRow_nil _ _ _ _, by simp [joinL], by simp⟩
  · rintro m l wr (⟨a, hops, size, acc, r, v, ia, ih, isz, rfl, rfl, rfl, rfl, hh, hsz, hf, hE, hR, hC, hS, hB, hjl, hal⟩ | ⟨r, v1, v2, v3, v4, rfl, hR, hC, hE⟩)
    · skip
      refine CW.seq ?_
      refine CW.rseq ?_
      refine WL.op (by decide) (R.move rfl) ?_
      refine WL.op (by decide) (R.nilCheck rfl) ?_
      refine WL.op (by decide) (FA100_2 rfl) ?_
      refine WL.op (by decide) (R.load Tryd.underlying4 rfl rfl (cell_at hR rfl)) ?_
      refine WL.op (by decide) (R.not rfl) ?_
      refine WL.next ?_
      refine CW.condT rfl ?_
      refine CW.skip ?_
      refine EW.next ?_
      refine CW.block ?_
      refine CW.seq ?_
      refine CW.rseq ?_
      refine WL.op (by decide) (R.move rfl) ?_
      refine WL.op (by decide) (R.move rfl) ?_
      refine WL.op (by decide) (R.nilCheck rfl) ?_
      refine WL.op (by decide) (FA100_0 rfl) ?_
      refine WL.op (by decide) (R.load Tryd.underlying36 rfl rfl (cell_at hR rfl)) ?_
      refine WL.op (by decide) (R.lenSlice rfl Tryd.underlying36 rfl) ?_
      refine WL.geqS (by decide) rfl rfl (fun h1 => ?_) (fun h1 => ?_)
      · skip
        refine WL.next ?_
        refine CW.condT rfl ?_
        refine CW.exit ?_
        refine EW.thenExit ?_
        refine EW.inFar (by decide) ?_
        refine EW.thenExit ?_
        refine EW.inHere ?_
        refine EW.next ?_
        refine CW.rseq ?_
        refine WL.op (by decide) (R.move rfl) ?_
        refine WL.op (by decide) (R.nilCheck rfl) ?_
        refine WL.op (by decide) (FA100_2 rfl) ?_
        refine WL.eff rfl (OP.store1 sz4 rfl rfl rfl rfl hR (Nat.le_of_ble_eq_true rfl) rfl ?_)
        intro w2 hc2 _ hb2
        refine WL.next ?_
        refine CW.rseq ?_
        refine WL.op (by decide) (R.assign rfl) ?_
        refine WL.next ?_
        refine CW.ret ?_
        refine EW.ret1 (.inl rfl) rfl rfl ⟨_, _, _, rfl, hb2, hC.trans hc2, NameRes.none (hE ▸ rd_end (by omega))⟩
      · skip
        refine WL.next ?_
        refine CW.condF rfl ?_
        refine CW.skip ?_
        refine EW.next ?_
        refine CW.rseq ?_
        have hlt : a < bs.length := by omega
        obtain ⟨g, o, rfl, hcell⟩ := hS.cells (by omega)
        obtain ⟨ch, hc⟩ : ∃ c, bs[a]? = some c := ⟨bs[a], List.getElem?_eq_getElem hlt⟩
        have hch := ch.toNat_lt
        obtain ⟨f, rfl⟩ : ∃ f, m = f + 1 := ⟨m - 1, by omega⟩
        refine WL.op (by decide) (R.move rfl) ?_
        refine WL.op (by decide) (R.nilCheck rfl) ?_
        refine WL.op (by decide) (FA100_0 rfl) ?_
        refine WL.op (by decide) (R.load Tryd.underlying36 rfl rfl (cell_at hR rfl)) ?_
        refine WL.op (by decide) (R.move rfl) ?_
        refine WL.op (by decide) (R.indexAddr1 (i := a) Tryd.underlying36 sz5 rfl rfl rfl (by omega)) ?_
        refine WL.op (by decide) (R.load Tryd.underlying5 rfl rfl (by rw [Nat.mul_one]; exact hcell a ch hc)) ?_
        refine WL.op (by decide) (R.conv53 rfl) ?_
        refine WL.op (by decide) (R.assign rfl) ?_
        refine WL.next ?_
        refine CW.block ?_
        refine CW.rseq ?_
        refine WL.op (by decide) (R.move rfl) ?_
        refine WL.eqlS (by decide) rfl rfl (fun h2 => ?_) (fun h2 => ?_)
        · skip
          refine WL.op (by decide) (R.assign rfl) ?_
          refine WL.next ?_
          refine CW.condT rfl ?_
          refine CW.seq ?_
          refine CW.rseq ?_
          refine WL.op (by decide) (R.move rfl) ?_
          refine WL.eqlS (by decide) rfl rfl (fun h3 => ?_) (fun h3 => ?_)
          · skip
            refine WL.next ?_
            refine CW.condT rfl ?_
            refine CW.region ?_
            refine WL.op (by decide) (R.move rfl) ?_
            refine WL.op (by decide) (R.move rfl) ?_
            refine WL.op (by decide) (R.add rfl rfl (by omega)) ?_
            refine WL.op (by decide) (R.nilCheck rfl) ?_
            refine WL.op (by decide) (FA100_1 rfl) ?_
            refine WL.eff rfl (OP.store1 sz3 rfl rfl rfl rfl hR (Nat.le_of_ble_eq_true rfl) rfl ?_)
            intro w2 hc2 _ hb2
            have hR := hb2
            have hC := hC.trans hc2
            have hS := hS.kept hc2 hg
            have hB := hB.kept hc2 (fun k hk e => by have := hB.lt k hk; omega)
            refine WL.nil ?_
            refine EW.next ?_
            refine CW.rseq ?_
            refine WL.op (by decide) (R.move rfl) ?_
            refine WL.op (by decide) (R.move rfl) ?_
            have hz := rd_zero (bs := bs) (f := f) (hops := hops) (size := size) (acc := acc) (r := r) hc (by omega)
            obtain ⟨B, cap, rfl, hBa⟩ := hB.args
            refine WL.eff rfl (OP.call (by decide) Tryd.func53 (by kernel_rfl) (by kernel_rfl) rfl (whole_any rb _ mm c _ B cap acc _ hR hBa (by omega) (by omega)) ?_)
            rintro e w3 ⟨rfl, hR3, hc3⟩
            refine ⟨_, rfl, ?_⟩
            refine WL.op (by decide) (R.assign rfl) ?_
            refine WL.next ?_
            refine CW.ret ?_
            refine EW.inRet ?_
            refine EW.inRet ?_
            refine EW.thenRet ?_
            refine EW.inRet ?_
            refine EW.thenRet ?_
            rw [hz] at hE
            refine EW.ret1 (.inl rfl) rfl rfl ⟨_, _, _, rfl, hR3, hC.trans hc3, ?_⟩
            rw [← hE]
            cases hb : namesL (joinL acc)
            · exact ⟨rfl, rfl⟩
            · have e0 : hops = 0 := by omega
              subst e0; exact ⟨rfl, rfl, rfl⟩
          · skip
            refine WL.next ?_
            refine CW.condF rfl ?_
            refine CW.skip ?_
            refine EW.next ?_
            refine CW.rseq ?_
            refine WL.op (by decide) (R.move rfl) ?_
            refine WL.op (by decide) (R.move rfl) ?_
            have hz := rd_zero (bs := bs) (f := f) (hops := hops) (size := size) (acc := acc) (r := r) hc (by omega)
            obtain ⟨B, cap, rfl, hBa⟩ := hB.args
            refine WL.eff rfl (OP.call (by decide) Tryd.func53 (by kernel_rfl) (by kernel_rfl) rfl (whole_any rb _ mm c _ B cap acc _ hR hBa (by omega) (by omega)) ?_)
            rintro e w3 ⟨rfl, hR3, hc3⟩
            refine ⟨_, rfl, ?_⟩
            refine WL.op (by decide) (R.assign rfl) ?_
            refine WL.next ?_
            refine CW.ret ?_
            refine EW.inRet ?_
            refine EW.inRet ?_
            refine EW.thenRet ?_
            refine EW.inRet ?_
            refine EW.thenRet ?_
            rw [hz] at hE
            refine EW.ret1 (.inl rfl) rfl rfl ⟨_, _, _, rfl, hR3, hC.trans hc3, ?_⟩
            rw [← hE]
            cases hb : namesL (joinL acc)
            · exact ⟨rfl, rfl⟩
            · have e0 : ¬ hops = 0 := by omega
              rw [if_neg e0]; exact ⟨rfl, rfl, rfl⟩
        · skip
          refine WL.op (by decide) (R.assign rfl) ?_
          refine WL.next ?_
          refine CW.condF rfl ?_
          refine CW.rseq ?_
          refine WL.op (by decide) (R.move rfl) ?_
          refine WL.geqS (by decide) rfl rfl (fun h4 => ?_) (fun h4 => ?_)
          · skip
            refine WL.op (by decide) (R.assign rfl) ?_
            refine WL.next ?_
            refine CW.condT rfl ?_
            refine CW.seq ?_
            refine CW.rseq ?_
            refine WL.op (by decide) (R.move rfl) ?_
            refine WL.op (by decide) (R.add rfl rfl (by omega)) ?_
            refine WL.op (by decide) (R.move rfl) ?_
            refine WL.op (by decide) (R.nilCheck rfl) ?_
            refine WL.op (by decide) (FA100_0 rfl) ?_
            refine WL.op (by decide) (R.load Tryd.underlying36 rfl rfl (cell_at hR rfl)) ?_
            refine WL.op (by decide) (R.lenSlice rfl Tryd.underlying36 rfl) ?_
            refine WL.geqS (by decide) rfl rfl (fun h5 => ?_) (fun h5 => ?_)
            · skip
              refine WL.op (by decide) (R.move rfl) ?_
              refine WL.pass (by decide) rfl rfl rfl ?_
              refine WL.pass (by decide) rfl rfl rfl ?_
              refine WL.op (by decide) (R.pickT rfl rfl) ?_
              refine WL.next ?_
              refine CW.condT rfl ?_
              refine CW.rseq ?_
              refine WL.op (by decide) (R.move rfl) ?_
              refine WL.op (by decide) (R.nilCheck rfl) ?_
              refine WL.op (by decide) (FA100_2 rfl) ?_
              refine WL.eff rfl (OP.store1 sz4 rfl rfl rfl rfl hR (Nat.le_of_ble_eq_true rfl) rfl ?_)
              intro w2 hc2 _ hb2
              refine WL.next ?_
              refine CW.rseq ?_
              refine WL.op (by decide) (R.assign rfl) ?_
              refine WL.next ?_
              refine CW.ret ?_
              refine EW.thenRet ?_
              refine EW.inRet ?_
              refine EW.inRet ?_
              refine EW.thenRet ?_
              refine EW.inRet ?_
              refine EW.thenRet ?_
              refine EW.ret1 (.inl rfl) rfl rfl ⟨_, _, _, rfl, hb2, hC.trans hc2, NameRes.none (hE ▸ rd_ptr_end hc (by omega) (by omega))⟩
            · skip
              refine WL.op (by decide) (R.move rfl) ?_
              refine WL.gop (by decide) rfl rfl rfl (R.move rfl) ?_
              refine WL.gsplit _ (by decide) rfl rfl rfl (R.eqlD rfl rfl) (fun h6 => ?_) (fun h6 => ?_)
              · skip
                refine WL.op (by decide) (R.pickF rfl rfl) ?_
                refine WL.next ?_
                refine CW.condT rfl ?_
                refine CW.rseq ?_
                refine WL.op (by decide) (R.move rfl) ?_
                refine WL.op (by decide) (R.nilCheck rfl) ?_
                refine WL.op (by decide) (FA100_2 rfl) ?_
                refine WL.eff rfl (OP.store1 sz4 rfl rfl rfl rfl hR (Nat.le_of_ble_eq_true rfl) rfl ?_)
                intro w2 hc2 _ hb2
                refine WL.next ?_
                refine CW.rseq ?_
                refine WL.op (by decide) (R.assign rfl) ?_
                refine WL.next ?_
                refine CW.ret ?_
                refine EW.thenRet ?_
                refine EW.inRet ?_
                refine EW.inRet ?_
                refine EW.thenRet ?_
                refine EW.inRet ?_
                refine EW.thenRet ?_
                refine EW.ret1 (.inl rfl) rfl rfl ⟨_, _, _, rfl, hb2, hC.trans hc2, NameRes.none (hE ▸ rd_ptr_many hc (by omega) (by omega))⟩
              · skip
                refine WL.op (by decide) (R.pickF rfl rfl) ?_
                refine WL.next ?_
                refine CW.condF rfl ?_
                refine CW.skip ?_
                refine EW.next ?_
                refine CW.rseq ?_
                refine WL.op (by decide) (R.move rfl) ?_
                refine WL.op (by decide) (R.and63 rfl rfl) ?_
                refine WL.op (by decide) (R.shl rfl rfl (by omega) (by simp only [show (8 : Int).toNat = 8 from rfl, Int.reducePow]; omega)) ?_
                refine WL.op (by decide) (R.move rfl) ?_
                refine WL.op (by decide) (R.nilCheck rfl) ?_
                refine WL.op (by decide) (FA100_0 rfl) ?_
                refine WL.op (by decide) (R.load Tryd.underlying36 rfl rfl (cell_at hR rfl)) ?_
                refine WL.op (by decide) (R.move rfl) ?_
                refine WL.op (by decide) (R.add rfl rfl (by omega)) ?_
                have hlt2 : a + 1 < bs.length := by omega
                obtain ⟨c2, hcc⟩ : ∃ c, bs[a + 1]? = some c := ⟨bs[a + 1], List.getElem?_eq_getElem hlt2⟩
                have hc2l := c2.toNat_lt
                refine WL.op (by decide) (R.indexAddr1 (i := a + 1) Tryd.underlying36 sz5 rfl rfl rfl (by omega)) ?_
                refine WL.op (by decide) (R.load Tryd.underlying5 rfl rfl (by rw [Nat.mul_one]; exact hcell (a + 1) c2 hcc)) ?_
                refine WL.op (by decide) (R.conv53 rfl) ?_
                refine WL.op (by decide) (R.or256 rfl rfl (by omega)) ?_
                refine WL.op (by decide) (R.assign rfl) ?_
                refine WL.next ?_
                refine CW.seq ?_
                refine CW.rseq ?_
                refine WL.op (by decide) (R.move rfl) ?_
                refine WL.eqlS (by decide) rfl rfl (fun h7 => ?_) (fun h7 => ?_)
                · skip
                  refine WL.next ?_
                  refine CW.condT rfl ?_
                  refine CW.region ?_
                  refine WL.op (by decide) (R.move rfl) ?_
                  refine WL.op (by decide) (R.move rfl) ?_
                  refine WL.op (by decide) (R.add rfl rfl (by omega)) ?_
                  refine WL.op (by decide) (R.nilCheck rfl) ?_
                  refine WL.op (by decide) (FA100_1 rfl) ?_
                  refine WL.eff rfl (OP.store1 sz3 rfl rfl rfl rfl hR (Nat.le_of_ble_eq_true rfl) rfl ?_)
                  intro w2 hc2 _ hb2
                  have hR := hb2
                  have hC := hC.trans hc2
                  have hS := hS.kept hc2 hg
                  have hB := hB.kept hc2 (fun k hk e => by have := hB.lt k hk; omega)
                  refine WL.nil ?_
                  refine EW.next ?_
                  refine CW.seq ?_
                  refine CW.rseq ?_
                  refine WL.op (by decide) (R.move rfl) ?_
                  refine WL.op (by decide) (R.move rfl) ?_
                  refine WL.geqS (by decide) rfl rfl (fun h8 => ?_) (fun h8 => ?_)
                  · skip
                    refine WL.next ?_
                    refine CW.condT rfl ?_
                    refine CW.region ?_
                    refine WL.op (by decide) (R.move rfl) ?_
                    refine WL.op (by decide) (R.nilCheck rfl) ?_
                    refine WL.op (by decide) (FA100_2 rfl) ?_
                    refine WL.eff rfl (OP.store1 sz4 rfl rfl rfl rfl hR (Nat.le_of_ble_eq_true rfl) rfl ?_)
                    intro w2 hc2 _ hb2
                    refine WL.nil ?_
                    refine EW.next ?_
                    refine CW.rseq ?_
                    refine WL.op (by decide) (R.move rfl) ?_
                    refine WL.op (by decide) (R.add rfl rfl (by omega)) ?_
                    refine WL.op (by decide) (R.assign rfl) ?_
                    refine WL.next ?_
                    refine CW.region ?_
                    refine WL.op (by decide) (R.move rfl) ?_
                    refine WL.op (by decide) (R.assign rfl) ?_
                    refine WL.nil ?_
                    refine EW.inNormal ?_
                    refine EW.inNormal ?_
                    exact EW.roundK [0, 3, 4, 5, 6] f (by omega) (Or.inr ⟨_, _, _, _, _, rfl, hb2, hC.trans hc2, hE ▸ rd_ptr_ahead hc (by omega) hcc (by omega)⟩)
                  · skip
                    refine WL.next ?_
                    refine CW.condF rfl ?_
                    refine CW.skip ?_
                    refine EW.next ?_
                    refine CW.rseq ?_
                    refine WL.op (by decide) (R.move rfl) ?_
                    refine WL.op (by decide) (R.add rfl rfl (by omega)) ?_
                    refine WL.op (by decide) (R.assign rfl) ?_
                    refine WL.next ?_
                    refine CW.region ?_
                    refine WL.op (by decide) (R.move rfl) ?_
                    refine WL.op (by decide) (R.assign rfl) ?_
                    refine WL.nil ?_
                    refine EW.inNormal ?_
                    refine EW.inNormal ?_
                    rw [rd_ptr hc (by omega) hcc (by omega) (by omega), if_pos (by omega)] at hE
                    exact EW.roundK [0, 3, 4, 5, 6] f (by omega) (Or.inl ⟨_, hops + 1, size, acc, _, v, _, _, _, rfl, rfl, rfl, rfl, by omega, by omega, by omega, hE, hR, hC, hS, hB, by omega, by omega⟩)
                · skip
                  refine WL.next ?_
                  refine CW.condF rfl ?_
                  refine CW.skip ?_
                  refine EW.next ?_
                  refine CW.seq ?_
                  refine CW.rseq ?_
                  refine WL.op (by decide) (R.move rfl) ?_
                  refine WL.op (by decide) (R.move rfl) ?_
                  refine WL.geqS (by decide) rfl rfl (fun h9 => ?_) (fun h9 => ?_)
                  · skip
                    refine WL.next ?_
                    refine CW.condT rfl ?_
                    refine CW.region ?_
                    refine WL.op (by decide) (R.move rfl) ?_
                    refine WL.op (by decide) (R.nilCheck rfl) ?_
                    refine WL.op (by decide) (FA100_2 rfl) ?_
                    refine WL.eff rfl (OP.store1 sz4 rfl rfl rfl rfl hR (Nat.le_of_ble_eq_true rfl) rfl ?_)
                    intro w2 hc2 _ hb2
                    refine WL.nil ?_
                    refine EW.next ?_
                    refine CW.rseq ?_
                    refine WL.op (by decide) (R.move rfl) ?_
                    refine WL.op (by decide) (R.add rfl rfl (by omega)) ?_
                    refine WL.op (by decide) (R.assign rfl) ?_
                    refine WL.next ?_
                    refine CW.region ?_
                    refine WL.op (by decide) (R.move rfl) ?_
                    refine WL.op (by decide) (R.assign rfl) ?_
                    refine WL.nil ?_
                    refine EW.inNormal ?_
                    refine EW.inNormal ?_
                    exact EW.roundK [0, 3, 4, 5, 6] f (by omega) (Or.inr ⟨_, _, _, _, _, rfl, hb2, hC.trans hc2, hE ▸ rd_ptr_ahead hc (by omega) hcc (by omega)⟩)
                  · skip
                    refine WL.next ?_
                    refine CW.condF rfl ?_
                    refine CW.skip ?_
                    refine EW.next ?_
                    refine CW.rseq ?_
                    refine WL.op (by decide) (R.move rfl) ?_
                    refine WL.op (by decide) (R.add rfl rfl (by omega)) ?_
                    refine WL.op (by decide) (R.assign rfl) ?_
                    refine WL.next ?_
                    refine CW.region ?_
                    refine WL.op (by decide) (R.move rfl) ?_
                    refine WL.op (by decide) (R.assign rfl) ?_
                    refine WL.nil ?_
                    refine EW.inNormal ?_
                    refine EW.inNormal ?_
                    rw [rd_ptr hc (by omega) hcc (by omega) (by omega), if_neg (by omega)] at hE
                    exact EW.roundK [0, 3, 4, 5, 6] f (by omega) (Or.inl ⟨_, hops + 1, size, acc, _, v, _, _, _, rfl, rfl, rfl, rfl, by omega, by omega, by omega, hE, hR, hC, hS, hB, by omega, by omega⟩)
          · skip
            refine WL.op (by decide) (R.assign rfl) ?_
            refine WL.next ?_
            refine CW.condF rfl ?_
            refine CW.rseq ?_
            refine WL.op (by decide) (R.move rfl) ?_
            refine WL.op (by decide) (R.move rfl) ?_
            refine WL.op (by decide) (R.add rfl rfl (by omega)) ?_
            refine WL.op (by decide) (R.add rfl rfl (by omega)) ?_
            refine WL.op (by decide) (R.assign rfl) ?_
            refine WL.next ?_
            refine CW.seq ?_
            refine CW.rseq ?_
            refine WL.op (by decide) (R.move rfl) ?_
            refine WL.gtrS (by decide) rfl rfl (fun h10 => ?_) (fun h10 => ?_)
            · skip
              refine WL.op (by decide) (R.move rfl) ?_
              refine WL.pass (by decide) rfl rfl rfl ?_
              refine WL.pass (by decide) rfl rfl rfl ?_
              refine WL.pass (by decide) rfl rfl rfl ?_
              refine WL.pass (by decide) rfl rfl rfl ?_
              refine WL.pass (by decide) rfl rfl rfl ?_
              refine WL.pass (by decide) rfl rfl rfl ?_
              refine WL.pass (by decide) rfl rfl rfl ?_
              refine WL.pass (by decide) rfl rfl rfl ?_
              refine WL.pass (by decide) rfl rfl rfl ?_
              refine WL.pass (by decide) rfl rfl rfl ?_
              refine WL.op (by decide) (R.pickT rfl rfl) ?_
              refine WL.op (by decide) (R.move rfl) ?_
              refine WL.pass (by decide) rfl rfl rfl ?_
              refine WL.pass (by decide) rfl rfl rfl ?_
              refine WL.op (by decide) (R.pickT rfl rfl) ?_
              refine WL.next ?_
              refine CW.condT rfl ?_
              refine CW.rseq ?_
              refine WL.op (by decide) (R.move rfl) ?_
              refine WL.op (by decide) (R.nilCheck rfl) ?_
              refine WL.op (by decide) (FA100_2 rfl) ?_
              refine WL.eff rfl (OP.store1 sz4 rfl rfl rfl rfl hR (Nat.le_of_ble_eq_true rfl) rfl ?_)
              intro w2 hc2 _ hb2
              refine WL.next ?_
              refine CW.rseq ?_
              refine WL.op (by decide) (R.assign rfl) ?_
              refine WL.next ?_
              refine CW.ret ?_
              refine EW.thenRet ?_
              refine EW.inRet ?_
              refine EW.inRet ?_
              refine EW.thenRet ?_
              refine EW.inRet ?_
              refine EW.thenRet ?_
              refine EW.ret1 (.inl rfl) rfl rfl ⟨_, _, _, rfl, hb2, hC.trans hc2, NameRes.none (hE ▸ rd_lab_bad hc (by omega) (by omega) (by omega))⟩
            · skip
              refine WL.op (by decide) (R.move rfl) ?_
              refine WL.gop (by decide) rfl rfl rfl (R.move rfl) ?_
              refine WL.gop (by decide) rfl rfl rfl (R.add rfl rfl (by omega)) ?_
              refine WL.gop (by decide) rfl rfl rfl (R.move rfl) ?_
              refine WL.gop (by decide) rfl rfl rfl (R.add rfl rfl (by omega)) ?_
              refine WL.gop (by decide) rfl rfl rfl (R.move rfl) ?_
              refine WL.gop (by decide) rfl rfl rfl (R.nilCheck rfl) ?_
              refine WL.gop (by decide) rfl rfl rfl (FA100_0 rfl) ?_
              refine WL.gop (by decide) rfl rfl rfl (R.load Tryd.underlying36 rfl rfl (cell_at hR rfl)) ?_
              refine WL.gop (by decide) rfl rfl rfl (R.lenSlice rfl Tryd.underlying36 rfl) ?_
              refine WL.gsplit _ (by decide) rfl rfl rfl (R.gtrD rfl rfl) (fun h11 => ?_) (fun h11 => ?_)
              · skip
                refine WL.op (by decide) (R.pickF rfl rfl) ?_
                refine WL.op (by decide) (R.move rfl) ?_
                refine WL.pass (by decide) rfl rfl rfl ?_
                refine WL.pass (by decide) rfl rfl rfl ?_
                refine WL.op (by decide) (R.pickT rfl rfl) ?_
                refine WL.next ?_
                refine CW.condT rfl ?_
                refine CW.rseq ?_
                refine WL.op (by decide) (R.move rfl) ?_
                refine WL.op (by decide) (R.nilCheck rfl) ?_
                refine WL.op (by decide) (FA100_2 rfl) ?_
                refine WL.eff rfl (OP.store1 sz4 rfl rfl rfl rfl hR (Nat.le_of_ble_eq_true rfl) rfl ?_)
                intro w2 hc2 _ hb2
                refine WL.next ?_
                refine CW.rseq ?_
                refine WL.op (by decide) (R.assign rfl) ?_
                refine WL.next ?_
                refine CW.ret ?_
                refine EW.thenRet ?_
                refine EW.inRet ?_
                refine EW.inRet ?_
                refine EW.thenRet ?_
                refine EW.inRet ?_
                refine EW.thenRet ?_
                refine EW.ret1 (.inl rfl) rfl rfl ⟨_, _, _, rfl, hb2, hC.trans hc2, NameRes.none (hE ▸ rd_lab_bad hc (by omega) (by omega) (by omega))⟩
              · skip
                refine WL.op (by decide) (R.pickF rfl rfl) ?_
                refine WL.op (by decide) (R.move rfl) ?_
                refine WL.gop (by decide) rfl rfl rfl (R.move rfl) ?_
                refine WL.gsplit _ (by decide) rfl rfl rfl (R.gtrD rfl rfl) (fun h12 => ?_) (fun h12 => ?_)
                · skip
                  refine WL.op (by decide) (R.pickF rfl rfl) ?_
                  refine WL.next ?_
                  refine CW.condT rfl ?_
                  refine CW.rseq ?_
                  refine WL.op (by decide) (R.move rfl) ?_
                  refine WL.op (by decide) (R.nilCheck rfl) ?_
                  refine WL.op (by decide) (FA100_2 rfl) ?_
                  refine WL.eff rfl (OP.store1 sz4 rfl rfl rfl rfl hR (Nat.le_of_ble_eq_true rfl) rfl ?_)
                  intro w2 hc2 _ hb2
                  refine WL.next ?_
                  refine CW.rseq ?_
                  refine WL.op (by decide) (R.assign rfl) ?_
                  refine WL.next ?_
                  refine CW.ret ?_
                  refine EW.thenRet ?_
                  refine EW.inRet ?_
                  refine EW.inRet ?_
                  refine EW.thenRet ?_
                  refine EW.inRet ?_
                  refine EW.thenRet ?_
                  refine EW.ret1 (.inl rfl) rfl rfl ⟨_, _, _, rfl, hb2, hC.trans hc2, NameRes.none (hE ▸ rd_lab_bad hc (by omega) (by omega) (by omega))⟩
                · skip
                  refine WL.op (by decide) (R.pickF rfl rfl) ?_
                  refine WL.next ?_
                  refine CW.condF rfl ?_
                  refine CW.skip ?_
                  refine EW.next ?_
                  refine CW.rseq ?_
                  refine WL.op (by decide) (R.move rfl) ?_
                  refine WL.op (by decide) (R.move rfl) ?_
                  refine WL.op (by decide) (R.nilCheck rfl) ?_
                  refine WL.op (by decide) (FA100_0 rfl) ?_
                  refine WL.op (by decide) (R.load Tryd.underlying36 rfl rfl (cell_at hR rfl)) ?_
                  refine WL.op (by decide) (R.move rfl) ?_
                  refine WL.op (by decide) (R.add rfl rfl (by omega)) ?_
                  refine WL.op (by decide) (R.move rfl) ?_
                  refine WL.op (by decide) (R.add rfl rfl (by omega)) ?_
                  refine WL.op (by decide) (R.move rfl) ?_
                  refine WL.op (by decide) (R.add rfl rfl (by omega)) ?_
                  refine WL.op (by decide) (R.sliceIn Tryd.underlying36 sz5 rfl rfl rfl (lo := a + 1) (hi := a + 1 + ch.toNat) (by omega) (by omega) (by omega) (by omega)) ?_
                  refine WL.op (by decide) (R.strOf (s := (bs.drop (a + 1)).take ch.toNat) rfl (by rw [List.length_take, List.length_drop]; omega) (fun j b hj => by rw [List.getElem?_take] at hj; split at hj <;> first | (rw [List.getElem?_drop] at hj; rw [Nat.add_assoc]; exact hcell (a + 1 + j) b hj) | cases hj)) ?_
                  refine WL.eff rfl (OP.call (by decide) Tryd.func38 (by kernel_rfl) (by kernel_rfl) rfl (lower_any _ _ (by rw [List.length_take]; omega)) ?_)
                  rintro e w1 ⟨rfl, hc1⟩
                  refine ⟨_, rfl, ?_⟩
                  refine WL.eff rfl (OP.buildSliceS (by decide) rfl ?_)
                  intro w2 hc2 hs2 hb2
                  have hB2 := (hB.kept hc1 (fun _ _ h => h)).kept hc2 (fun _ _ h => h)
                  refine WL.eff rfl (OP.appendS (by decide) rfl rfl hB2 hb2 (by omega) (by have := hC.size; have := hc1.size; omega) ?_)
                  intro v2 w3 hB3 hM3
                  have hcm : Chg (fun k => w.heap.size ≤ k) wr w3 := ((hc1.trans hc2).mono (fun _ _ h => h.elim)).then (Chg.moved hM3) (fun k hk e => (hB2.lt k e.symm).1)
                  have hR3 : RSt w3 rb _ mm c r false := hcm.at hR (by omega)
                  have hC3 : Chg (fun k => k = rb) w w3 := hC.then hcm (fun k hk e => by omega)
                  have hS3 := hS.kept hcm (fun g o hA e => by have := hgl (by omega) g o hA; omega)
                  refine WL.op (by decide) (R.assign rfl) ?_
                  refine WL.next ?_
                  refine CW.region ?_
                  refine WL.op (by decide) (R.move rfl) ?_
                  refine WL.op (by decide) (R.move rfl) ?_
                  refine WL.op (by decide) (R.add rfl rfl (by omega)) ?_
                  refine WL.op (by decide) (R.add rfl rfl (by omega)) ?_
                  refine WL.op (by decide) (R.assign rfl) ?_
                  refine WL.nil ?_
                  refine EW.inNormal ?_
                  refine EW.inNormal ?_
                  rw [rd_lab hc (by omega) (by omega) (by omega)] at hE
                  have hjl := joinL_snoc_length acc (lower ((bs.drop (a + 1)).take ch.toNat))
                  rw [lower_length] at hjl
                  have htl : ((bs.drop (a + 1)).take ch.toNat).length ≤ ch.toNat := List.length_take_le _ _
                  exact EW.roundK [0, 3, 4, 5, 6] f (by omega) (Or.inl ⟨_, hops, _, _, r, v2, _, _, _, rfl, by omega, rfl, by omega, by omega, by omega, by omega, hE, hR3, hC3, hS3, hB3, by omega, by simp; omega⟩)
    · skip
      refine CW.seq ?_
      refine CW.rseq ?_
      refine WL.op (by decide) (R.move rfl) ?_
      refine WL.op (by decide) (R.nilCheck rfl) ?_
      refine WL.op (by decide) (FA100_2 rfl) ?_
      refine WL.op (by decide) (R.load Tryd.underlying4 rfl rfl (cell_at hR rfl)) ?_
      refine WL.op (by decide) (R.not rfl) ?_
      refine WL.next ?_
      refine CW.condF rfl ?_
      refine CW.exit ?_
      refine EW.thenExit ?_
      refine EW.thenExit ?_
      refine EW.inHere ?_
      refine EW.next ?_
      refine CW.rseq ?_
      refine WL.op (by decide) (R.move rfl) ?_
      refine WL.op (by decide) (R.nilCheck rfl) ?_
      refine WL.op (by decide) (FA100_2 rfl) ?_
      refine WL.eff rfl (OP.store1 sz4 rfl rfl rfl rfl hR (Nat.le_of_ble_eq_true rfl) rfl ?_)
      intro w2 hc2 _ hb2
      refine WL.next ?_
      refine CW.rseq ?_
      refine WL.op (by decide) (R.assign rfl) ?_
      refine WL.next ?_
      refine CW.ret ?_
      refine EW.ret1 (.inl rfl) rfl rfl ⟨_, _, _, rfl, hb2, hC.trans hc2, NameRes.none hE⟩
theorem rname_bad (rb : Nat) (A : Option Addr) (mm c : Nat) (a : Nat) (w : World) (hR : RSt w rb A mm c a true) :
    Calls Tryd.prog 46 #[.pointer (some ⟨rb, 0, none⟩)] w fun e w' => e = .returned (sv []) ∧ RSt w' rb A mm c a true ∧ Chg (fun k => k = rb) w w' := by
  refine calls_cw (args := [.pointer (some ⟨rb, 0, none⟩)]) Tryd.func46 rfl rfl ?_
  show CW _ _ _ 141 [(0, .pointer (some ⟨rb, 0, none⟩))] w
  refine CW.rseq ?_
  refine WL.op (by decide) (R.assign rfl) ?_
  refine WL.next ?_
  refine CW.rseq ?_
  refine WL.op (by decide) (R.assign rfl) ?_
  refine WL.next ?_
  refine CW.rseq ?_
  refine WL.op (by decide) (R.move rfl) ?_
  refine WL.op (by decide) (R.nilCheck rfl) ?_
  refine WL.op (by decide) (FA100_1 rfl) ?_
  refine WL.op (by decide) (R.load Tryd.underlying3 rfl rfl (cell_at hR rfl)) ?_
  refine WL.op (by decide) (R.assign rfl) ?_
  refine WL.op (by decide) (R.assign rfl) ?_
  refine WL.op (by decide) (R.assign rfl) ?_
  refine WL.next ?_
  refine CW.seq ?_
  refine CW.block ?_
  refine CW.loopK [0, 3, 4, 5, 6] (fun m l wr => ∃ (v1 v2 v3 v4 : Value), l = [(0, .pointer (some ⟨rb, 0, none⟩)), (3, v1), (4, v2), (5, v3), (6, v4)] ∧ RSt wr rb A mm c a true ∧ Chg (fun k => k = rb) w wr) (0) ?_ ?_
  · exact ⟨_, _, _, _, rfl, hR, Chg.refl _ _⟩
  · rintro m l wr ⟨v1, v2, v3, v4, rfl, hR, hC⟩
    refine CW.seq ?_
    refine CW.rseq ?_
    refine WL.op (by decide) (R.move rfl) ?_
    refine WL.op (by decide) (R.nilCheck rfl) ?_
    refine WL.op (by decide) (FA100_2 rfl) ?_
    refine WL.op (by decide) (R.load Tryd.underlying4 rfl rfl (cell_at hR rfl)) ?_
    refine WL.op (by decide) (R.not rfl) ?_
    refine WL.next ?_
    refine CW.condF rfl ?_
    refine CW.exit ?_
    refine EW.thenExit ?_
    refine EW.thenExit ?_
    refine EW.inHere ?_
    refine EW.next ?_
    refine CW.rseq ?_
    refine WL.op (by decide) (R.move rfl) ?_
    refine WL.op (by decide) (R.nilCheck rfl) ?_
    refine WL.op (by decide) (FA100_2 rfl) ?_
    refine WL.eff rfl (OP.store1 sz4 rfl rfl rfl rfl hR (Nat.le_of_ble_eq_true rfl) rfl ?_)
    intro w2 hc2 _ hb2
    refine WL.next ?_
    refine CW.rseq ?_
    refine WL.op (by decide) (R.assign rfl) ?_
    refine WL.next ?_
    refine CW.ret ?_
    exact EW.ret1 (.inl rfl) rfl rfl ⟨rfl, hb2, hC.trans hc2⟩
/-- Whatever the reader's state. -/
theorem rname_any (rb : Nat) (A : Option Addr) (mm c : Nat) (bs : List UInt8) (a : Nat) (bad : Bool) (w : World) (hR : RSt w rb A mm c a bad) (hS : Src w A mm c bs) (hg : ∀ g o, A = some ⟨g, o, none⟩ → g ≠ rb) (ha : a ≤ 1099511627776) (hm : mm ≤ 1099511627776) :
    Calls Tryd.prog 46 #[.pointer (some ⟨rb, 0, none⟩)] w fun e w' => ∃ s a' bad', e = .returned (sv s) ∧ RSt w' rb A mm c a' bad' ∧ Chg (fun k => k = rb) w w' ∧ (if bad = true then NameRes none s a' bad' else NameRes (rdName bs 300 a 0 0 [] a) s a' bad') := by
  cases bad with
  | true =>
    refine (rname_bad rb A mm c a w hR).mono ?_
    rintro e w' ⟨rfl, h1, h2⟩
    exact ⟨_, _, _, rfl, h1, h2, rfl, rfl⟩
  | false =>
    refine (rname_ok rb A mm c bs a w _ hR hS hg ha hm (Array.getElem?_eq_some_iff.1 hR).1 rfl).mono ?_
    rintro e w' ⟨s, a', bad', rfl, h1, h2, h3⟩
    exact ⟨s, a', bad', rfl, h1, h2, by simpa using h3⟩
end Go.Proofs.YthcpjcgjmdfpjaaDoor

namespace Go.Proofs.YthcpjcgjmdfpjaaDoor
open Go Go.RowKit
set_option maxRecDepth 100000

theorem numR_no {bs : List UInt8} {n a : Nat} {bad : Bool} (h : bad = true ∨ bs.length < a + n) : numR bs n a bad = (0, a, true) := if_pos h
theorem numR_yes {bs : List UInt8} {n a : Nat} (h : a + n ≤ bs.length) : numR bs n a false = (beNat ((bs.drop a).take n), a + n, false) := if_neg (by simp; omega)

theorem num_bad (rb : Nat) (A : Option Addr) (m c : Nat) (bs : List UInt8) (n a : Nat) (w : World) (hR : RSt w rb A m c a true) :
    Calls Tryd.prog 45 #[.pointer (some ⟨rb, 0, none⟩), .int .i64 n] w fun e w' => e = .returned (.int .i64 ((numR bs n a true).1 : Nat)) ∧ RSt w' rb A m c (numR bs n a true).2.1 (numR bs n a true).2.2 ∧ Chg (fun k => k = rb) w w' := by
  refine calls_cw (args := [.pointer (some ⟨rb, 0, none⟩), .int .i64 n]) Tryd.func45 rfl rfl ?_
  show CW _ _ _ 64 [(0, .pointer (some ⟨rb, 0, none⟩)), (1, .int .i64 n)] w
  refine CW.rseq ?_
  refine WL.op (by decide) (R.assign rfl) ?_
  refine WL.next ?_
  refine CW.seq ?_
  refine CW.seq ?_
  refine CW.draw (fun w => RSt w rb A m c a true) (by kernel_rfl) ?_
  refine AH.take 0 rfl (by kernel_rfl) (by kernel_rfl) (by kernel_rfl) (fun _ _ _ _ h => h) hR (by decide) (fun w hS => R.move rfl) ?_
  refine AH.take 1 rfl (by kernel_rfl) (by kernel_rfl) (by kernel_rfl) (fun _ _ _ _ h => h) hR (by decide) (fun w hS => R.nilCheck rfl) ?_
  refine AH.take 2 rfl (by kernel_rfl) (by kernel_rfl) (by kernel_rfl) (fun _ _ _ _ h => h) hR (by decide) (fun w hS => FA100_2 rfl) ?_
  refine AH.take 3 rfl (by kernel_rfl) (by kernel_rfl) (by kernel_rfl) (fun _ _ _ _ h => h) hR (by decide) (fun w hS => R.load Tryd.underlying4 rfl rfl (cell_at hS rfl)) ?_
  refine AH.take 4 rfl (by kernel_rfl) (by kernel_rfl) (by kernel_rfl) (fun _ _ _ _ h => h) hR (by decide) (fun w hS => R.move rfl) ?_
  refine AH.pass 5 rfl (by kernel_rfl) (by kernel_rfl) (by kernel_rfl) (fun _ _ _ _ h => h) hR (by decide) rfl rfl rfl ?_
  refine AH.pass 6 rfl (by kernel_rfl) (by kernel_rfl) (by kernel_rfl) (fun _ _ _ _ h => h) hR (by decide) rfl rfl rfl ?_
  refine AH.pass 7 rfl (by kernel_rfl) (by kernel_rfl) (by kernel_rfl) (fun _ _ _ _ h => h) hR (by decide) rfl rfl rfl ?_
  refine AH.pass 8 rfl (by kernel_rfl) (by kernel_rfl) (by kernel_rfl) (fun _ _ _ _ h => h) hR (by decide) rfl rfl rfl ?_
  refine AH.pass 9 rfl (by kernel_rfl) (by kernel_rfl) (by kernel_rfl) (fun _ _ _ _ h => h) hR (by decide) rfl rfl rfl ?_
  refine AH.pass 10 rfl (by kernel_rfl) (by kernel_rfl) (by kernel_rfl) (fun _ _ _ _ h => h) hR (by decide) rfl rfl rfl ?_
  refine AH.pass 11 rfl (by kernel_rfl) (by kernel_rfl) (by kernel_rfl) (fun _ _ _ _ h => h) hR (by decide) rfl rfl rfl ?_
  refine AH.pass 12 rfl (by kernel_rfl) (by kernel_rfl) (by kernel_rfl) (fun _ _ _ _ h => h) hR (by decide) rfl rfl rfl ?_
  refine AH.pass 13 rfl (by kernel_rfl) (by kernel_rfl) (by kernel_rfl) (fun _ _ _ _ h => h) hR (by decide) rfl rfl rfl ?_
  refine AH.pass 14 rfl (by kernel_rfl) (by kernel_rfl) (by kernel_rfl) (fun _ _ _ _ h => h) hR (by decide) rfl rfl rfl ?_
  refine AH.pass 15 rfl (by kernel_rfl) (by kernel_rfl) (by kernel_rfl) (fun _ _ _ _ h => h) hR (by decide) rfl rfl rfl ?_
  refine AH.pass 16 rfl (by kernel_rfl) (by kernel_rfl) (by kernel_rfl) (fun _ _ _ _ h => h) hR (by decide) rfl rfl rfl ?_
  refine AH.take 17 rfl (by kernel_rfl) (by kernel_rfl) (by kernel_rfl) (fun _ _ _ _ h => h) hR (by decide) (fun w hS => R.pickT rfl rfl) ?_
  refine AH.done (by kernel_rfl) ?_
  refine EW.next ?_
  refine CW.condT rfl ?_
  refine CW.rseq ?_
  refine WL.op (by decide) (R.move rfl) ?_
  refine WL.op (by decide) (R.nilCheck rfl) ?_
  refine WL.op (by decide) (FA100_2 rfl) ?_
  refine WL.eff rfl (OP.store1 sz4 rfl rfl rfl rfl hR (Nat.le_of_ble_eq_true rfl) rfl ?_)
  intro w2 hc2 _ hb2
  refine WL.next ?_
  refine CW.rseq ?_
  refine WL.op (by decide) (R.assign rfl) ?_
  refine WL.next ?_
  refine CW.ret ?_
  refine EW.thenRet ?_
  refine EW.ret1 (.inl rfl) rfl rfl ⟨?_, ?_, ?_⟩
  · rw [numR_no (.inl rfl)]; rfl
  · rw [numR_no (.inl rfl)]; exact hb2
  · exact (Chg.drew _ w).trans hc2
theorem num_short (rb : Nat) (A : Option Addr) (m c : Nat) (bs : List UInt8) (n a : Nat) (w : World) (hR : RSt w rb A m c a false) (hS : Src w A m c bs) (hn : n ≤ 4) (ha : a ≤ 1099511627776) (hm : m ≤ 1099511627776) (hs : bs.length < a + n) :
    Calls Tryd.prog 45 #[.pointer (some ⟨rb, 0, none⟩), .int .i64 n] w fun e w' => e = .returned (.int .i64 ((numR bs n a false).1 : Nat)) ∧ RSt w' rb A m c (numR bs n a false).2.1 (numR bs n a false).2.2 ∧ Chg (fun k => k = rb) w w' := by
  have hl := hS.len
  refine calls_cw (args := [.pointer (some ⟨rb, 0, none⟩), .int .i64 n]) Tryd.func45 rfl rfl ?_
  show CW _ _ _ 64 [(0, .pointer (some ⟨rb, 0, none⟩)), (1, .int .i64 n)] w
  refine CW.rseq ?_
  refine WL.op (by decide) (R.assign rfl) ?_
  refine WL.next ?_
  refine CW.seq ?_
  refine CW.seq ?_
  refine CW.draw (fun w => RSt w rb A m c a false) (by kernel_rfl) ?_
  refine AH.take 0 rfl (by kernel_rfl) (by kernel_rfl) (by kernel_rfl) (fun _ _ _ _ h => h) hR (by decide) (fun w hS => R.move rfl) ?_
  refine AH.take 1 rfl (by kernel_rfl) (by kernel_rfl) (by kernel_rfl) (fun _ _ _ _ h => h) hR (by decide) (fun w hS => R.nilCheck rfl) ?_
  refine AH.take 2 rfl (by kernel_rfl) (by kernel_rfl) (by kernel_rfl) (fun _ _ _ _ h => h) hR (by decide) (fun w hS => FA100_2 rfl) ?_
  refine AH.take 3 rfl (by kernel_rfl) (by kernel_rfl) (by kernel_rfl) (fun _ _ _ _ h => h) hR (by decide) (fun w hS => R.load Tryd.underlying4 rfl rfl (cell_at hS rfl)) ?_
  refine AH.take 4 rfl (by kernel_rfl) (by kernel_rfl) (by kernel_rfl) (fun _ _ _ _ h => h) hR (by decide) (fun w hS => R.move rfl) ?_
  refine AH.takeG 5 rfl (by kernel_rfl) (by kernel_rfl) (by kernel_rfl) (fun _ _ _ _ h => h) hR (by decide) rfl rfl rfl (fun w hS => R.move rfl) ?_
  refine AH.takeG 6 rfl (by kernel_rfl) (by kernel_rfl) (by kernel_rfl) (fun _ _ _ _ h => h) hR (by decide) rfl rfl rfl (fun w hS => R.nilCheck rfl) ?_
  refine AH.takeG 7 rfl (by kernel_rfl) (by kernel_rfl) (by kernel_rfl) (fun _ _ _ _ h => h) hR (by decide) rfl rfl rfl (fun w hS => FA100_1 rfl) ?_
  refine AH.takeG 8 rfl (by kernel_rfl) (by kernel_rfl) (by kernel_rfl) (fun _ _ _ _ h => h) hR (by decide) rfl rfl rfl (fun w hS => R.load Tryd.underlying3 rfl rfl (cell_at hS rfl)) ?_
  refine AH.takeG 9 rfl (by kernel_rfl) (by kernel_rfl) (by kernel_rfl) (fun _ _ _ _ h => h) hR (by decide) rfl rfl rfl (fun w hS => R.move rfl) ?_
  refine AH.takeG 10 rfl (by kernel_rfl) (by kernel_rfl) (by kernel_rfl) (fun _ _ _ _ h => h) hR (by decide) rfl rfl rfl (fun w hS => R.add rfl rfl (by omega)) ?_
  refine AH.takeG 11 rfl (by kernel_rfl) (by kernel_rfl) (by kernel_rfl) (fun _ _ _ _ h => h) hR (by decide) rfl rfl rfl (fun w hS => R.move rfl) ?_
  refine AH.takeG 12 rfl (by kernel_rfl) (by kernel_rfl) (by kernel_rfl) (fun _ _ _ _ h => h) hR (by decide) rfl rfl rfl (fun w hS => R.nilCheck rfl) ?_
  refine AH.takeG 13 rfl (by kernel_rfl) (by kernel_rfl) (by kernel_rfl) (fun _ _ _ _ h => h) hR (by decide) rfl rfl rfl (fun w hS => FA100_0 rfl) ?_
  refine AH.takeG 14 rfl (by kernel_rfl) (by kernel_rfl) (by kernel_rfl) (fun _ _ _ _ h => h) hR (by decide) rfl rfl rfl (fun w hS => R.load Tryd.underlying36 rfl rfl (cell_at hS rfl)) ?_
  refine AH.takeG 15 rfl (by kernel_rfl) (by kernel_rfl) (by kernel_rfl) (fun _ _ _ _ h => h) hR (by decide) rfl rfl rfl (fun w hS => R.lenSlice rfl Tryd.underlying36 rfl) ?_
  refine AH.takeG 16 rfl (by kernel_rfl) (by kernel_rfl) (by kernel_rfl) (fun _ _ _ _ h => h) hR (by decide) rfl rfl rfl (fun w hS => R.gtr rfl rfl (c := true) (decide_eq_true (by omega))) ?_
  refine AH.take 17 rfl (by kernel_rfl) (by kernel_rfl) (by kernel_rfl) (fun _ _ _ _ h => h) hR (by decide) (fun w hS => R.pickF rfl rfl) ?_
  refine AH.done (by kernel_rfl) ?_
  refine EW.next ?_
  refine CW.condT rfl ?_
  refine CW.rseq ?_
  refine WL.op (by decide) (R.move rfl) ?_
  refine WL.op (by decide) (R.nilCheck rfl) ?_
  refine WL.op (by decide) (FA100_2 rfl) ?_
  refine WL.eff rfl (OP.store1 sz4 rfl rfl rfl rfl hR (Nat.le_of_ble_eq_true rfl) rfl ?_)
  intro w2 hc2 _ hb2
  refine WL.next ?_
  refine CW.rseq ?_
  refine WL.op (by decide) (R.assign rfl) ?_
  refine WL.next ?_
  refine CW.ret ?_
  refine EW.thenRet ?_
  refine EW.ret1 (.inl rfl) rfl rfl ⟨?_, ?_, ?_⟩
  · rw [numR_no (.inr (by omega))]; rfl
  · rw [numR_no (.inr (by omega))]; exact hb2
  · exact (Chg.drew _ w).trans hc2
theorem num_ok (rb : Nat) (A : Option Addr) (m c : Nat) (bs : List UInt8) (n a : Nat) (w : World) (hR : RSt w rb A m c a false) (hS : Src w A m c bs) (hn : n ≤ 4) (ha : a ≤ 1099511627776) (hm : m ≤ 1099511627776) (hn0 : 0 < n) (hs : a + n ≤ bs.length) :
    Calls Tryd.prog 45 #[.pointer (some ⟨rb, 0, none⟩), .int .i64 n] w fun e w' => e = .returned (.int .i64 ((numR bs n a false).1 : Nat)) ∧ RSt w' rb A m c (numR bs n a false).2.1 (numR bs n a false).2.2 ∧ Chg (fun k => k = rb) w w' := by
  have hl := hS.len
  have hcp := hS.cap
  have hm0 : m ≠ 0 := by omega
  obtain ⟨g, o, hA, _⟩ := hS.cells hm0
  subst hA
  refine calls_cw (args := [.pointer (some ⟨rb, 0, none⟩), .int .i64 n]) Tryd.func45 rfl rfl ?_
  show CW _ _ _ 64 [(0, .pointer (some ⟨rb, 0, none⟩)), (1, .int .i64 n)] w
  refine CW.rseq ?_
  refine WL.op (by decide) (R.assign rfl) ?_
  refine WL.next ?_
  refine CW.seq ?_
  refine CW.seq ?_
  refine CW.draw (fun w => RSt w rb (some ⟨g, o, none⟩) m c a false) (by kernel_rfl) ?_
  refine AH.take 0 rfl (by kernel_rfl) (by kernel_rfl) (by kernel_rfl) (fun _ _ _ _ h => h) hR (by decide) (fun w hS => R.move rfl) ?_
  refine AH.take 1 rfl (by kernel_rfl) (by kernel_rfl) (by kernel_rfl) (fun _ _ _ _ h => h) hR (by decide) (fun w hS => R.nilCheck rfl) ?_
  refine AH.take 2 rfl (by kernel_rfl) (by kernel_rfl) (by kernel_rfl) (fun _ _ _ _ h => h) hR (by decide) (fun w hS => FA100_2 rfl) ?_
  refine AH.take 3 rfl (by kernel_rfl) (by kernel_rfl) (by kernel_rfl) (fun _ _ _ _ h => h) hR (by decide) (fun w hS => R.load Tryd.underlying4 rfl rfl (cell_at hS rfl)) ?_
  refine AH.take 4 rfl (by kernel_rfl) (by kernel_rfl) (by kernel_rfl) (fun _ _ _ _ h => h) hR (by decide) (fun w hS => R.move rfl) ?_
  refine AH.takeG 5 rfl (by kernel_rfl) (by kernel_rfl) (by kernel_rfl) (fun _ _ _ _ h => h) hR (by decide) rfl rfl rfl (fun w hS => R.move rfl) ?_
  refine AH.takeG 6 rfl (by kernel_rfl) (by kernel_rfl) (by kernel_rfl) (fun _ _ _ _ h => h) hR (by decide) rfl rfl rfl (fun w hS => R.nilCheck rfl) ?_
  refine AH.takeG 7 rfl (by kernel_rfl) (by kernel_rfl) (by kernel_rfl) (fun _ _ _ _ h => h) hR (by decide) rfl rfl rfl (fun w hS => FA100_1 rfl) ?_
  refine AH.takeG 8 rfl (by kernel_rfl) (by kernel_rfl) (by kernel_rfl) (fun _ _ _ _ h => h) hR (by decide) rfl rfl rfl (fun w hS => R.load Tryd.underlying3 rfl rfl (cell_at hS rfl)) ?_
  refine AH.takeG 9 rfl (by kernel_rfl) (by kernel_rfl) (by kernel_rfl) (fun _ _ _ _ h => h) hR (by decide) rfl rfl rfl (fun w hS => R.move rfl) ?_
  refine AH.takeG 10 rfl (by kernel_rfl) (by kernel_rfl) (by kernel_rfl) (fun _ _ _ _ h => h) hR (by decide) rfl rfl rfl (fun w hS => R.add rfl rfl (by omega)) ?_
  refine AH.takeG 11 rfl (by kernel_rfl) (by kernel_rfl) (by kernel_rfl) (fun _ _ _ _ h => h) hR (by decide) rfl rfl rfl (fun w hS => R.move rfl) ?_
  refine AH.takeG 12 rfl (by kernel_rfl) (by kernel_rfl) (by kernel_rfl) (fun _ _ _ _ h => h) hR (by decide) rfl rfl rfl (fun w hS => R.nilCheck rfl) ?_
  refine AH.takeG 13 rfl (by kernel_rfl) (by kernel_rfl) (by kernel_rfl) (fun _ _ _ _ h => h) hR (by decide) rfl rfl rfl (fun w hS => FA100_0 rfl) ?_
  refine AH.takeG 14 rfl (by kernel_rfl) (by kernel_rfl) (by kernel_rfl) (fun _ _ _ _ h => h) hR (by decide) rfl rfl rfl (fun w hS => R.load Tryd.underlying36 rfl rfl (cell_at hS rfl)) ?_
  refine AH.takeG 15 rfl (by kernel_rfl) (by kernel_rfl) (by kernel_rfl) (fun _ _ _ _ h => h) hR (by decide) rfl rfl rfl (fun w hS => R.lenSlice rfl Tryd.underlying36 rfl) ?_
  refine AH.takeG 16 rfl (by kernel_rfl) (by kernel_rfl) (by kernel_rfl) (fun _ _ _ _ h => h) hR (by decide) rfl rfl rfl (fun w hS => R.gtr rfl rfl (c := false) (decide_eq_false (by omega))) ?_
  refine AH.take 17 rfl (by kernel_rfl) (by kernel_rfl) (by kernel_rfl) (fun _ _ _ _ h => h) hR (by decide) (fun w hS => R.pickF rfl rfl) ?_
  refine AH.done (by kernel_rfl) ?_
  refine EW.next ?_
  refine CW.condF rfl ?_
  refine CW.skip ?_
  refine EW.next ?_
  refine CW.rseq ?_
  refine WL.op (by decide) (R.assign rfl) ?_
  refine WL.next ?_
  refine CW.seq ?_
  refine CW.seq ?_
  refine CW.draw (fun w => RSt w rb (some ⟨g, o, none⟩) m c a false) (by kernel_rfl) ?_
  refine AH.take 0 rfl (by kernel_rfl) (by kernel_rfl) (by kernel_rfl) (fun _ _ _ _ h => h) hR (by decide) (fun w hS => R.move rfl) ?_
  refine AH.take 1 rfl (by kernel_rfl) (by kernel_rfl) (by kernel_rfl) (fun _ _ _ _ h => h) hR (by decide) (fun w hS => R.nilCheck rfl) ?_
  refine AH.take 2 rfl (by kernel_rfl) (by kernel_rfl) (by kernel_rfl) (fun _ _ _ _ h => h) hR (by decide) (fun w hS => FA100_0 rfl) ?_
  refine AH.take 3 rfl (by kernel_rfl) (by kernel_rfl) (by kernel_rfl) (fun _ _ _ _ h => h) hR (by decide) (fun w hS => R.load Tryd.underlying36 rfl rfl (cell_at hS rfl)) ?_
  refine AH.take 4 rfl (by kernel_rfl) (by kernel_rfl) (by kernel_rfl) (fun _ _ _ _ h => h) hR (by decide) (fun w hS => R.move rfl) ?_
  refine AH.take 5 rfl (by kernel_rfl) (by kernel_rfl) (by kernel_rfl) (fun _ _ _ _ h => h) hR (by decide) (fun w hS => R.nilCheck rfl) ?_
  refine AH.take 6 rfl (by kernel_rfl) (by kernel_rfl) (by kernel_rfl) (fun _ _ _ _ h => h) hR (by decide) (fun w hS => FA100_1 rfl) ?_
  refine AH.take 7 rfl (by kernel_rfl) (by kernel_rfl) (by kernel_rfl) (fun _ _ _ _ h => h) hR (by decide) (fun w hS => R.load Tryd.underlying3 rfl rfl (cell_at hS rfl)) ?_
  refine AH.take 8 rfl (by kernel_rfl) (by kernel_rfl) (by kernel_rfl) (fun _ _ _ _ h => h) hR (by decide) (fun w hS => R.move rfl) ?_
  refine AH.take 9 rfl (by kernel_rfl) (by kernel_rfl) (by kernel_rfl) (fun _ _ _ _ h => h) hR (by decide) (fun w hS => R.nilCheck rfl) ?_
  refine AH.take 10 rfl (by kernel_rfl) (by kernel_rfl) (by kernel_rfl) (fun _ _ _ _ h => h) hR (by decide) (fun w hS => FA100_1 rfl) ?_
  refine AH.take 11 rfl (by kernel_rfl) (by kernel_rfl) (by kernel_rfl) (fun _ _ _ _ h => h) hR (by decide) (fun w hS => R.load Tryd.underlying3 rfl rfl (cell_at hS rfl)) ?_
  refine AH.take 12 rfl (by kernel_rfl) (by kernel_rfl) (by kernel_rfl) (fun _ _ _ _ h => h) hR (by decide) (fun w hS => R.move rfl) ?_
  refine AH.take 13 rfl (by kernel_rfl) (by kernel_rfl) (by kernel_rfl) (fun _ _ _ _ h => h) hR (by decide) (fun w hS => R.add rfl rfl (by omega)) ?_
  refine AH.take 14 rfl (by kernel_rfl) (by kernel_rfl) (by kernel_rfl) (fun _ _ _ _ h => h) hR (by decide) (fun w hS => R.sliceSl Tryd.underlying36 sz5 rfl rfl rfl rfl (hi := a + n) (by omega) (Nat.le_add_right _ _) (by omega)) ?_
  refine AH.take 15 rfl (by kernel_rfl) (by kernel_rfl) (by kernel_rfl) (fun _ _ _ _ h => h) hR (by decide) (fun w hS => R.lenSlice rfl Tryd.underlying36 rfl) ?_
  refine AH.take 16 rfl (by kernel_rfl) (by kernel_rfl) (by kernel_rfl) (fun _ _ _ _ h => h) hR (by decide) (fun w hS => R.move rfl) ?_
  refine AH.done (by kernel_rfl) ?_
  refine EW.next ?_
  refine CW.block ?_
  refine CW.loopK [0, 1, 5, 43, 44, 45] (fun k l wr => RSt wr rb (some ⟨g, o, none⟩) m c a false ∧ Chg (fun k => k = rb) w wr ∧ Src wr (some ⟨g, o, none⟩) m c bs ∧ ∃ (j : Nat) (i : Int), j + k = n ∧ i = (j : Int) ∧ l = [(0, .pointer (some ⟨rb, 0, none⟩)), (1, .int .i64 n), (5, .int .i64 (beNat ((bs.drop a).take j) : Nat)), (43, .slice (some ⟨g, o + a, none⟩) n (c - a)), (44, .int .i64 n), (45, .int .i64 i)]) (n) ?_ ?_
  · refine ⟨hR, (Chg.drew _ w).trans (Chg.drew _ _), hS.kept ((Chg.drew (fun _ => False) w).trans (Chg.drew _ _)) (fun _ _ _ h => h), 0, _, by omega, rfl, ?_⟩
    show [(0, _), (1, _), (5, _), (43, _), (44, _), (45, _)] = _
    simp only [if_neg (show ¬ c = a by omega), Nat.add_sub_cancel_left]
    rfl
  · rintro k l wr ⟨hR, hC, hS, j, i, hk, rfl, rfl⟩
    obtain ⟨g', o', hA', hcell⟩ := hS.cells hm0
    obtain ⟨rfl, rfl⟩ : g = g' ∧ o = o' := by injection hA' with e; injection e with e1 e2; exact ⟨e1, e2⟩
    refine CW.rseq ?_
    refine WL.lssS (by decide) rfl rfl (fun h1 => ?_) (fun h1 => ?_)
    · skip
      refine WL.next ?_
      refine CW.seq ?_
      refine CW.condT rfl ?_
      refine CW.skip ?_
      refine EW.next ?_
      refine CW.seq ?_
      refine CW.block ?_
      refine CW.rseq ?_
      have hlt : j < n := by omega
      obtain ⟨b, hb⟩ : ∃ b, (bs.drop a)[j]? = some b := ⟨(bs.drop a)[j]'(by rw [List.length_drop]; omega), List.getElem?_eq_getElem _⟩
      have hbt := beNat_take hb
      have hbl := beNat_take_lt (bs.drop a) (j := j) (by omega)
      refine WL.op (by decide) (R.indexAddr1 (i := j) Tryd.underlying36 sz5 rfl rfl rfl (by omega)) ?_
      refine WL.op (by decide) (R.load Tryd.underlying5 rfl rfl (by rw [Nat.mul_one, Nat.add_assoc]; exact hcell (a + j) b (by rw [List.getElem?_drop] at hb; exact hb))) ?_
      refine WL.op (by decide) (R.assign rfl) ?_
      refine WL.next ?_
      refine CW.region ?_
      refine WL.op (by decide) (R.move rfl) ?_
      refine WL.op (by decide) (R.shl rfl rfl (by omega) (by simp only [show (8 : Int).toNat = 8 from rfl, Int.reducePow]; omega)) ?_
      refine WL.op (by decide) (R.move rfl) ?_
      refine WL.op (by decide) (R.conv53 rfl) ?_
      refine WL.op (by decide) (R.or256 rfl rfl (by omega)) ?_
      refine WL.op (by decide) (R.assign rfl) ?_
      refine WL.nil ?_
      refine EW.inNormal ?_
      refine EW.next ?_
      refine CW.region ?_
      refine WL.op (by decide) (R.add rfl rfl (by omega)) ?_
      refine WL.op (by decide) (R.move rfl) ?_
      refine WL.nil ?_
      refine EW.roundK [0, 1, 5, 43, 44, 45] (k - 1) (by omega) ⟨hR, hC, hS, j + 1, (j : Int) + 1, by omega, by omega, ?_⟩
      rw [hbt]
      rfl
    · skip
      refine WL.next ?_
      refine CW.seq ?_
      refine CW.condF rfl ?_
      refine CW.exit ?_
      refine EW.thenExit ?_
      refine EW.thenExit ?_
      refine EW.inHere ?_
      refine EW.next ?_
      refine CW.rseq ?_
      refine WL.op (by decide) (R.move rfl) ?_
      refine WL.op (by decide) (R.nilCheck rfl) ?_
      refine WL.op (by decide) (FA100_1 rfl) ?_
      refine WL.op (by decide) (R.load Tryd.underlying3 rfl rfl (cell_at hR rfl)) ?_
      refine WL.op (by decide) (R.move rfl) ?_
      refine WL.op (by decide) (R.add rfl rfl (by omega)) ?_
      refine WL.op (by decide) (R.nilCheck rfl) ?_
      refine WL.op (by decide) (FA100_1 rfl) ?_
      refine WL.eff rfl (OP.store1 sz3 rfl rfl rfl rfl hR (Nat.le_of_ble_eq_true rfl) rfl ?_)
      intro w2 hc2 _ hb2
      refine WL.next ?_
      refine CW.rseq ?_
      refine WL.op (by decide) (R.move rfl) ?_
      refine WL.op (by decide) (R.assign rfl) ?_
      refine WL.next ?_
      refine CW.ret ?_
      refine EW.ret1 (.inl rfl) rfl rfl ⟨?_, ?_, ?_⟩
      · rw [numR_yes (by omega), show j = n by omega]
      · rw [numR_yes (by omega)]; exact hb2
      · exact hC.trans hc2

theorem num_any (rb : Nat) (A : Option Addr) (m c : Nat) (bs : List UInt8) (n a : Nat) (bad : Bool) (w : World) (hR : RSt w rb A m c a bad) (hS : Src w A m c bs) (hn : n ≤ 4) (hn0 : 0 < n) (ha : a ≤ 1099511627776) (hm : m ≤ 1099511627776) :
    Calls Tryd.prog 45 #[.pointer (some ⟨rb, 0, none⟩), .int .i64 n] w fun e w' => e = .returned (.int .i64 ((numR bs n a bad).1 : Nat)) ∧ RSt w' rb A m c (numR bs n a bad).2.1 (numR bs n a bad).2.2 ∧ Chg (fun k => k = rb) w w' := by
  cases bad with
  | true => exact num_bad rb A m c bs n a w hR
  | false =>
    by_cases h : a + n ≤ bs.length
    · exact num_ok rb A m c bs n a w hR hS hn ha hm hn0 h
    · exact num_short rb A m c bs n a w hR hS hn ha hm (by omega)
end Go.Proofs.YthcpjcgjmdfpjaaDoor

namespace Go.Proofs.YthcpjcgjmdfpjaaDoor
open Go Go.RowKit

/-- What stands behind a record's head: data from place a on, n bytes of them. -/
def recBody (bs : List UInt8) (nm : List UInt8) (ty : Nat) (ttl : Int) (a n : Nat) : Option Rec :=
  if ty = 1 ∧ n = 4 then some ⟨nm, ty, ttl, mappedL ++ (bs.drop a).take n, [], []⟩
  else if ty = 28 ∧ n = 16 then some ⟨nm, ty, ttl, (bs.drop a).take n, [], []⟩
  else if ty = 2 ∨ ty = 5 ∨ ty = 12 then
    match rdName bs 300 a 0 0 [] a with
    | some (t, e) => if e = a + n then some ⟨nm, ty, ttl, zero16, t, []⟩ else none
    | none => none
  else some ⟨nm, ty, ttl, zero16, [], (bs.drop a).take n⟩
def ttlOf (n : Nat) : Int := if (1048576 : Int) < (n : Int) then 1048576 else (n : Int)
/-- Only if it may be a record. -/
def finR (res : Option Rec) (e : Nat) : Option (Rec × Nat) :=
  match res with
  | none => none
  | some r => if rightR r then some (r, e) else none
/-- A record read at a place, and where the reader goes on. -/
def readRec (bs : List UInt8) (a : Nat) : Option (Rec × Nat) :=
  match rdName bs 300 a 0 0 [] a with
  | none => none
  | some (nm, a1) =>
    if bs.length < a1 + 10 then none
    else if beNat ((bs.drop (a1 + 2)).take 2) ≠ 1 then none
    else if bs.length < a1 + 10 + beNat ((bs.drop (a1 + 8)).take 2) then none
    else finR (recBody bs nm (beNat ((bs.drop a1).take 2)) (ttlOf (beNat ((bs.drop (a1 + 4)).take 4))) (a1 + 10) (beNat ((bs.drop (a1 + 8)).take 2))) (a1 + 10 + beNat ((bs.drop (a1 + 8)).take 2))

/-- What a record's reading leaves. -/
def RecRes (res : Option (Rec × Nat)) (r : Rec) (a : Nat) (bad : Bool) : Prop :=
  match res with
  | some (r0, a0) => r = r0 ∧ a = a0 ∧ bad = false
  | none => bad = true

theorem numR_cases {bs : List UInt8} {n a : Nat} {b : Bool} {v a' : Nat} {b' : Bool} (h : numR bs n a b = (v, a', b')) :
    (b' = true ∧ v = 0 ∧ a' = a ∧ (b = true ∨ bs.length < a + n)) ∨ (b' = false ∧ b = false ∧ a + n ≤ bs.length ∧ a' = a + n ∧ v = beNat ((bs.drop a).take n)) := by
  unfold numR at h
  split at h
  · rename_i hc
    injection h with h1 h; injection h with h2 h3
    exact .inl ⟨h3.symm, h1.symm, h2.symm, hc⟩
  · rename_i hc
    injection h with h1 h; injection h with h2 h3
    refine .inr ⟨h3.symm, ?_, by omega, h2.symm, h1.symm⟩
    cases b with
    | true => exact absurd (.inl rfl) hc
    | false => rfl
theorem numR_lt {bs : List UInt8} {n a : Nat} {b : Bool} {v a' : Nat} {b' : Bool} (h : numR bs n a b = (v, a', b')) (hn : n ≤ 4) : v < 4294967296 := by
  rcases numR_cases h with ⟨_, rfl, _⟩ | ⟨_, _, _, _, rfl⟩
  · decide
  · exact beNat_take_lt _ hn
theorem numR_lt2 {bs : List UInt8} {a : Nat} {b : Bool} {v a' : Nat} {b' : Bool} (h : numR bs 2 a b = (v, a', b')) : v < 65536 := by
  rcases numR_cases h with ⟨_, rfl, _⟩ | ⟨_, _, _, _, rfl⟩
  · decide
  · have := beNat_lt ((bs.drop a).take 2)
    refine Nat.lt_of_lt_of_le this ?_
    exact Nat.pow_le_pow_right (by decide) (List.length_take_le _ _)

/-- The reader is not bad just if it stands in its bytes. -/
def In (bs : List UInt8) (a : Nat) (b : Bool) : Prop := b = false → a ≤ bs.length
theorem numR_in {bs : List UInt8} {n a : Nat} {b : Bool} {v a' : Nat} {b' : Bool} (h : numR bs n a b = (v, a', b')) : In bs a' b' := by
  rcases numR_cases h with ⟨rfl, _⟩ | ⟨rfl, _, h1, rfl, _⟩
  · intro h; cases h
  · intro _; exact h1

theorem rdName_le (bs : List UInt8) : ∀ (f a hops size : Nat) (acc : List (List UInt8)) (r : Nat) (s : List UInt8) (e : Nat), (hops ≠ 0 → r ≤ bs.length) → rdName bs f a hops size acc r = some (s, e) → e ≤ bs.length := by
  intro f
  induction f with
  | zero => intro a hops size acc r s e _ h; cases h
  | succ f ih =>
    intro a hops size acc r s e hr h
    rw [rdName] at h
    cases hc : bs[a]? with
    | none => rw [hc] at h; cases h
    | some c =>
      have hlt := (List.getElem?_eq_some_iff.1 hc).1
      rw [hc] at h
      simp only at h
      split at h
      · split at h
        · injection h with h; injection h with h1 h2
          split at h2
          · omega
          · rename_i h3; have := hr h3; omega
        · cases h
      · split at h
        · cases hc2 : bs[a + 1]? with
          | none => rw [hc2] at h; cases h
          | some c2 =>
            have hlt2 := (List.getElem?_eq_some_iff.1 hc2).1
            rw [hc2] at h
            simp only at h
            split at h
            · cases h
            · split at h
              · cases h
              · refine ih _ _ _ _ _ _ _ (fun _ => ?_) h
                split
                · omega
                · rename_i h3; exact hr h3
        · split at h
          · cases h
          · exact ih _ _ _ _ _ _ _ hr h
theorem nres_in {bs : List UInt8} {a : Nat} {bad : Bool} {s : List UInt8} {a' : Nat} {b' : Bool} (h : if bad = true then NameRes none s a' b' else NameRes (rdName bs 300 a 0 0 [] a) s a' b') : In bs a' b' := by
  intro hb
  subst hb
  split at h
  · cases h.2
  · cases hr : rdName bs 300 a 0 0 [] a with
    | none => rw [hr] at h; cases h.2
    | some p =>
      obtain ⟨s0, a0⟩ := p
      rw [hr] at h
      obtain ⟨_, rfl, _⟩ := h
      exact rdName_le bs 300 a 0 0 [] a s0 a' (fun h => absurd rfl h) hr
theorem nres_ok {bs : List UInt8} {a : Nat} {bad : Bool} {s : List UInt8} {a' : Nat} (h : if bad = true then NameRes none s a' false else NameRes (rdName bs 300 a 0 0 [] a) s a' false) : bad = false ∧ rdName bs 300 a 0 0 [] a = some (s, a') := by
  split at h
  · cases h.2
  · rename_i hb
    refine ⟨by simpa using hb, ?_⟩
    cases hr : rdName bs 300 a 0 0 [] a with
    | none => rw [hr] at h; cases h.2
    | some p =>
      obtain ⟨s0, a0⟩ := p
      rw [hr] at h
      obtain ⟨rfl, rfl, _⟩ := h
      rfl
theorem nres_no {bs : List UInt8} {a : Nat} {bad : Bool} {s : List UInt8} {a' : Nat} (h : if bad = true then NameRes none s a' true else NameRes (rdName bs 300 a 0 0 [] a) s a' true) : bad = true ∨ rdName bs 300 a 0 0 [] a = none := by
  split at h
  · rename_i hb; exact .inl hb
  · cases hr : rdName bs 300 a 0 0 [] a with
    | none => exact .inr rfl
    | some p =>
      obtain ⟨s0, a0⟩ := p
      rw [hr] at h
      cases h.2.2

section
variable {bs : List UInt8} {a : Nat} {bad : Bool} {s : List UInt8} {a1 a2 a3 a4 a5 v2 v3 v4 v5 : Nat} {b1 b2 b3 b4 b5 : Bool}
theorem chain_ok (h1 : if bad = true then NameRes none s a1 b1 else NameRes (rdName bs 300 a 0 0 [] a) s a1 b1) (e2 : numR bs 2 a1 b1 = (v2, a2, b2)) (e3 : numR bs 2 a2 b2 = (v3, a3, b3)) (e4 : numR bs 4 a3 b3 = (v4, a4, b4)) (e5 : numR bs 2 a4 b4 = (v5, a5, b5)) (hb : b5 = false) :
    bad = false ∧ rdName bs 300 a 0 0 [] a = some (s, a1) ∧ a1 + 10 ≤ bs.length ∧ a5 = a1 + 10 ∧ v2 = beNat ((bs.drop a1).take 2) ∧ v3 = beNat ((bs.drop (a1 + 2)).take 2) ∧ v4 = beNat ((bs.drop (a1 + 4)).take 4) ∧ v5 = beNat ((bs.drop (a1 + 8)).take 2) := by
  subst hb
  rcases numR_cases e5 with ⟨h, _⟩ | ⟨_, rfl, h5, rfl, rfl⟩
  · cases h
  rcases numR_cases e4 with ⟨h, _⟩ | ⟨_, rfl, h4, rfl, rfl⟩
  · cases h
  rcases numR_cases e3 with ⟨h, _⟩ | ⟨_, rfl, h3, rfl, rfl⟩
  · cases h
  rcases numR_cases e2 with ⟨h, _⟩ | ⟨_, rfl, h2, rfl, rfl⟩
  · cases h
  obtain ⟨rfl, hn⟩ := nres_ok h1
  exact ⟨rfl, hn, by omega, by omega, rfl, rfl, rfl, rfl⟩
theorem chain_bad (h1 : if bad = true then NameRes none s a1 b1 else NameRes (rdName bs 300 a 0 0 [] a) s a1 b1) (e2 : numR bs 2 a1 b1 = (v2, a2, b2)) (e3 : numR bs 2 a2 b2 = (v3, a3, b3)) (e4 : numR bs 4 a3 b3 = (v4, a4, b4)) (e5 : numR bs 2 a4 b4 = (v5, a5, b5)) (hb : b5 = true ∨ (b5 = false ∧ v3 ≠ 1) ∨ (b5 = false ∧ bs.length < a5 + v5)) :
    (if bad = true then none else readRec bs a) = none := by
  cases b5 with
  | false =>
    obtain ⟨rfl, hn, hl, rfl, rfl, rfl, rfl, rfl⟩ := chain_ok h1 e2 e3 e4 e5 rfl
    rw [if_neg (by simp), readRec, hn]
    simp only
    rw [if_neg (by omega)]
    rcases hb with h | ⟨_, h⟩ | ⟨_, h⟩
    · cases h
    · rw [if_pos h]
    · split <;> first | rfl | (rw [if_pos h])
  | true =>
    cases bad with
    | true => rfl
    | false =>
      rw [if_neg (by simp), readRec]
      cases hr : rdName bs 300 a 0 0 [] a with
      | none => rfl
      | some p =>
        obtain ⟨s0, a0⟩ := p
        rw [if_neg (by simp), hr] at h1
        obtain ⟨rfl, rfl, rfl⟩ := h1
        simp only
        rw [if_pos]
        rcases numR_cases e5 with ⟨_, _, rfl, h5⟩ | ⟨h, _⟩
        · rcases numR_cases e4 with ⟨_, _, rfl, h4⟩ | ⟨rfl, rfl, h4, rfl, _⟩
          · rcases numR_cases e3 with ⟨_, _, rfl, h3⟩ | ⟨rfl, rfl, h3, rfl, _⟩
            · rcases numR_cases e2 with ⟨_, _, rfl, h2⟩ | ⟨rfl, h2, _, rfl, _⟩
              · rcases h2 with h | h
                · cases h
                · omega
              · rcases h3 with h | h
                · cases h
                · omega
            · rcases numR_cases e2 with ⟨h, _⟩ | ⟨_, _, h2, rfl, _⟩
              · cases h
              · rcases h4 with h | h
                · cases h
                · omega
          · rcases numR_cases e3 with ⟨h, _⟩ | ⟨_, rfl, h3, rfl, _⟩
            · cases h
            · rcases numR_cases e2 with ⟨h, _⟩ | ⟨_, _, h2, rfl, _⟩
              · cases h
              · rcases h5 with h | h
                · cases h
                · omega
        · cases h
/-- A record whose head is right. -/
theorem readRec_body (hn : rdName bs 300 a 0 0 [] a = some (s, a1)) (hl : a1 + 10 ≤ bs.length) (hc : beNat ((bs.drop (a1 + 2)).take 2) = 1) (h2 : a1 + 10 + beNat ((bs.drop (a1 + 8)).take 2) ≤ bs.length) :
    readRec bs a = finR (recBody bs s (beNat ((bs.drop a1).take 2)) (ttlOf (beNat ((bs.drop (a1 + 4)).take 4))) (a1 + 10) (beNat ((bs.drop (a1 + 8)).take 2))) (a1 + 10 + beNat ((bs.drop (a1 + 8)).take 2)) := by
  rw [readRec, hn]
  simp only
  rw [if_neg (by omega), if_neg (by simp [hc]), if_neg (by omega)]
theorem readRec_le {r : Rec} {e : Nat} (h : readRec bs a = some (r, e)) : e ≤ bs.length ∧ r.addr.length = 16 ∧ rightR r = true := by
  unfold readRec at h
  cases hr : rdName bs 300 a 0 0 [] a with
  | none => rw [hr] at h; cases h
  | some p =>
    obtain ⟨s0, a0⟩ := p
    rw [hr] at h
    simp only at h
    split at h
    · cases h
    · split at h
      · cases h
      · split at h
        · cases h
        · rename_i h1 h2 h3
          cases hb : recBody bs s0 (beNat ((bs.drop a0).take 2)) (ttlOf (beNat ((bs.drop (a0 + 4)).take 4))) (a0 + 10) (beNat ((bs.drop (a0 + 8)).take 2)) with
          | none => rw [hb] at h; cases h
          | some r0 =>
            rw [hb] at h
            simp only [finR] at h
            split at h
            · rename_i hrr
              injection h with h; injection h with h4 h5
              subst h4
              refine ⟨by omega, ?_, hrr⟩
              unfold recBody at hb
              split at hb
              · rename_i hq; obtain rfl := Option.some.inj hb
                simp only [List.length_append, List.length_take, List.length_drop, mappedL, List.length_cons, List.length_nil]
                omega
              · split at hb
                · rename_i hq; obtain rfl := Option.some.inj hb
                  simp only [List.length_take, List.length_drop]
                  omega
                · split at hb
                  · split at hb
                    · split at hb
                      · obtain rfl := Option.some.inj hb; rfl
                      · cases hb
                    · cases hb
                  · obtain rfl := Option.some.inj hb; rfl
            · cases h
end

/-- (*reader).num, in any state. -/
theorem num_st (rb : Nat) (A : Option Addr) (m c : Nat) (bs : List UInt8) (n a : Nat) (bad : Bool) (w : World) (hR : RSt w rb A m c a bad) (hS : Src w A m c bs) (hn : n ≤ 4) (hn0 : 0 < n) (ha : In bs a bad) (hm : m ≤ 1099511627776) :
    Calls Tryd.prog 45 #[.pointer (some ⟨rb, 0, none⟩), .int .i64 n] w fun e w' => ∃ v a' b', numR bs n a bad = (v, a', b') ∧ e = .returned (.int .i64 (v : Nat)) ∧ RSt w' rb A m c a' b' ∧ Chg (fun k => k = rb) w w' := by
  have key : Calls Tryd.prog 45 #[.pointer (some ⟨rb, 0, none⟩), .int .i64 n] w fun e w' => e = .returned (.int .i64 ((numR bs n a bad).1 : Nat)) ∧ RSt w' rb A m c (numR bs n a bad).2.1 (numR bs n a bad).2.2 ∧ Chg (fun k => k = rb) w w' := by
    cases bad with
    | true => exact num_bad rb A m c bs n a w hR
    | false => exact num_any rb A m c bs n a false w hR hS hn hn0 (by have := ha rfl; have := hS.len; omega) hm
  refine key.mono ?_
  rintro e w' ⟨rfl, h1, h2⟩
  exact ⟨_, _, _, rfl, rfl, h1, h2⟩
/-- (*reader).name, in any state. -/
theorem rname_st (rb : Nat) (A : Option Addr) (mm c : Nat) (bs : List UInt8) (a : Nat) (bad : Bool) (w : World) (hR : RSt w rb A mm c a bad) (hS : Src w A mm c bs) (hg : ∀ g o, A = some ⟨g, o, none⟩ → g ≠ rb) (ha : In bs a bad) (hm : mm ≤ 1099511627776) :
    Calls Tryd.prog 46 #[.pointer (some ⟨rb, 0, none⟩)] w fun e w' => ∃ s a' bad', e = .returned (sv s) ∧ RSt w' rb A mm c a' bad' ∧ Chg (fun k => k = rb) w w' ∧ (if bad = true then NameRes none s a' bad' else NameRes (rdName bs 300 a 0 0 [] a) s a' bad') ∧ s.length ≤ 253 := by
  have key : Calls Tryd.prog 46 #[.pointer (some ⟨rb, 0, none⟩)] w fun e w' => ∃ s a' bad', e = .returned (sv s) ∧ RSt w' rb A mm c a' bad' ∧ Chg (fun k => k = rb) w w' ∧ (if bad = true then NameRes none s a' bad' else NameRes (rdName bs 300 a 0 0 [] a) s a' bad') := by
    cases bad with
    | true =>
      refine (rname_bad rb A mm c a w hR).mono ?_
      rintro e w' ⟨rfl, h1, h2⟩
      exact ⟨_, _, _, rfl, h1, h2, rfl, rfl⟩
    | false =>
      refine (rname_ok rb A mm c bs a w _ hR hS hg (by have := ha rfl; have := hS.len; omega) hm (Array.getElem?_eq_some_iff.1 hR).1 rfl).mono ?_
      rintro e w' ⟨s, a', bad', rfl, h1, h2, h3⟩
      exact ⟨s, a', bad', rfl, h1, h2, by simpa using h3⟩
  refine key.mono ?_
  rintro e w' ⟨s, a', bad', rfl, h1, h2, h3⟩
  refine ⟨s, a', bad', rfl, h1, h2, h3, ?_⟩
  have hnm : ∀ (f a hops size : Nat) (acc : List (List UInt8)) (r : Nat) (s : List UInt8) (e : Nat), rdName bs f a hops size acc r = some (s, e) → s.length ≤ 253 := by
    intro f
    induction f with
    | zero => intro a hops size acc r s e h; cases h
    | succ f ih =>
      intro a hops size acc r s e h
      rw [rdName] at h
      cases hc : bs[a]? with
      | none => rw [hc] at h; cases h
      | some c =>
        rw [hc] at h
        simp only at h
        split at h
        · split at h
          · rename_i hn
            injection h with h; injection h with h1 h2
            subst h1
            unfold namesL at hn
            simp only [Bool.and_eq_true, decide_eq_true_eq] at hn
            exact hn.1.1
          · cases h
        · split at h
          · cases hc2 : bs[a + 1]? with
            | none => rw [hc2] at h; cases h
            | some c2 =>
              rw [hc2] at h
              simp only at h
              split at h
              · cases h
              · split at h
                · cases h
                · exact ih _ _ _ _ _ _ _ h
          · split at h
            · cases h
            · exact ih _ _ _ _ _ _ _ h
  cases bad' with
  | true =>
    have : s = [] := by
      split at h3
      · exact h3.1
      · cases hr : rdName bs 300 a 0 0 [] a with
        | none => rw [hr] at h3; exact h3.1
        | some p => obtain ⟨s0, a0⟩ := p; rw [hr] at h3; cases h3.2.2
    subst this; simp
  | false => exact hnm _ _ _ _ _ _ _ _ (nres_ok h3).2
end Go.Proofs.YthcpjcgjmdfpjaaDoor

namespace Go.Proofs.YthcpjcgjmdfpjaaDoor
open Go Go.RowKit
set_option maxRecDepth 100000
section
variable {l : Env} {w : World} {x y z : Operand} {t ty e : TypeId} {v : Value} {b o : Nat} {n d : Nat} {Q : Exit → Act → World → Prop} {M : Env → World → Prop} {pos : String} {af : Array Edge}

/-- 'a[lo:hi:max]' of an array in memory, to constants. -/
theorem R.sliceArrM {hi mx : Operand} {hv mv : Value} {n elem h1 c1 : Nat} (ht : Tryd.prog.underlying t = some (.array n elem)) (hs : (Tryd.prog.info? elem).map (·.size) = some 1) (hx : ev l x = some (.pointer (some ⟨b, o, none⟩)))
    (hhi : ev l hi = some hv) (hmx : ev l mx = some mv) (hb : (Instr.sliceBounds false n n none (some hv) (some mv)).run Tryd.prog w = .ok (0, h1, c1) w) (hne : ¬ c1 = 0) :
    Runs Tryd.prog l (.slice t x none (some hi) (some mx)) w (.slice (some ⟨b, o, none⟩) h1 c1) w := fun r _ _ _ _ _ he => by
  obtain ⟨inf, hi', hz⟩ := inf_of hs
  have hat : (Instr.sliceAt t (.pointer (some ⟨b, o, none⟩)) none (some hv) (some mv)).run Tryd.prog w = .ok (.slice (some ⟨b, o, none⟩) h1 c1) w := by
    simp only [Instr.sliceAt, Sem.run_bind, run_underlying ht, Result.andThen_ok, Instr.sureAddr, Sem.run_pure, hb, sizeOf, typeInfo, run_program, hi', hz, Nat.mul_one, hne, if_false, Addr.add_none, Nat.sub_zero, Nat.zero_mul, Nat.add_zero]
  simp only [execOp, he x _ hx, he hi _ hhi, he mx _ hmx, Option.map_none, Option.map_some, Sem.run_bind, hat, Result.andThen_ok]
  rfl

/-- An append to a slice that is full: always a new block. -/
theorem OP.appendFull {g k : Nat} {olds news : List UInt8} {ad : Addr} {m c : Nat} (hdn : d < n) (hx : ev l x = some (.slice (some ⟨g, k, none⟩) olds.length olds.length)) (hy : ev l y = some (.slice (some ad) m c)) (holds : ∀ j u, (olds.map u8v)[j]? = some u → w.cell? ⟨g, k + j, none⟩ = some u)
    (hm : news.length = m) (hm0 : 0 < m) (hnews : ∀ j u, (news.map u8v)[j]? = some u → w.cell? (ad.add j) = some u) (hl : olds.length + news.length ≤ 70368744177664)
    (h : ∀ v' w', Buf w' w.heap.size v' (olds ++ news) → Chg (fun _ => False) w w' → M ((d, v') :: l) w') :
    OP Tryd.prog Q ⟨some d, .call { callee := .builtin .append, args := #[x, y], argTypes := #[36, 36] }, t, pos, af, none⟩ n l w M := by
  obtain ⟨i0, hi, hz0, hz1, hz2⟩ := info_parts Tryd.info5
  subst hm
  have hfit : Builtin.nextslicecap (olds.length + news.length) olds.length * i0.bytes ≤ 281474976710656 := by
    rw [hz2]; exact growslice_fits (by omega) (by omega)
  have hr := run_append_grow (P := Tryd.prog) (w := w) 36 t 5 i0 (.int .u8 0) Tryd.underlying36 hi hz0 ⟨g, k, none⟩ olds.length olds.length (olds.map u8v) (by rw [hz1]; simp) (fun j u hj => by rw [Addr.add_none]; exact holds j u hj) ad news.length c (news.map u8v) (by rw [hz1]; simp) hnews (by omega) (by omega) hfit
  have hge := grownCap_ge w (olds.length + news.length) olds.length 5
  have hcm : grownCap w (olds.length + news.length) olds.length 5 ≤ maxLen := grownCap_le_maxLen w (olds.length + news.length) olds.length 5 (by unfold maxLen; omega)
  refine OP.val (v := .slice (some ⟨w.heap.size, 0, none⟩) (olds.length + news.length) (grownCap w (olds.length + news.length) olds.length 5)) hdn (fun r _ _ _ _ _ he => ?_) (h _ (w.drew.alloc (.cells ((olds.map u8v).toArray ++ (news.map u8v).toArray ++ Builtin.zeroCells (Value.int .u8 0).cells (grownCap w (olds.length + news.length) olds.length 5 - (olds.length + news.length))) 5)) ?_ ?_)
  · simp only [execOp, resolve, invoke, builtin, Sem.run_bind, Sem.run_pure, Result.andThen_ok, List.map_toArray, List.map_cons, List.map_nil, he x _ hx, he y _ hy]
    have e1 : ∀ ty, (Builtin.append_ #[36, 36] ty #[.slice (some ⟨g, k, none⟩) olds.length olds.length, .slice (some ad) news.length c]).run Tryd.prog w = (Builtin.append_ #[36, 36] t #[.slice (some ⟨g, k, none⟩) olds.length olds.length, .slice (some ad) news.length c]).run Tryd.prog w := fun _ => rfl
    rw [e1, hr]; rfl
  · refine ⟨by simp, .inr ⟨w.heap.size, _, _, by rw [List.length_append], Nat.le_refl _, heap_alloc_new w.drew _, by rw [List.length_append]; exact hge, hcm, ?_, ?_⟩⟩
    · have hz1' : (Value.int IntKind.u8 0).cells.size = 1 := rfl
      simp only [Array.size_append, List.size_toArray, size_zeroCells, hz1', List.length_map]
      omega
    · simp only [Array.toList_append, List.map_append]
      exact List.take_left' (by simp)
  · exact (Chg.drew _ w).trans (Chg.alloc _ _ _)

/-- 'copy' of bytes into a block. -/
theorem OP.copy {g k dl dc sl sc : Nat} {ad : Addr} {cur : Array Value} {cs : List UInt8} (hdn : d < n) (hx : ev l x = some (.slice (some ⟨g, k, none⟩) dl dc)) (hy : ev l y = some (.slice (some ad) sl sc)) (hg : w.heap[g]? = some (.cells cur e (0, 0))) (hn : cs.length = Nat.min sl dl)
    (hsrc : ∀ j u, (cs.map u8v)[j]? = some u → w.cell? (ad.add j) = some u) (hfit : k + cs.length ≤ cur.size)
    (h : ∀ w', Chg (fun j => j = g) w w' → w'.heap.size = w.heap.size → w'.heap[g]? = some (.cells (cur.toList.take k ++ cs.map u8v ++ cur.toList.drop (k + cs.length)).toArray e (0, 0)) → M ((d, .int .i64 cs.length) :: l) w') :
    OP Tryd.prog Q ⟨some d, .call { callee := .builtin .copy, args := #[x, y], argTypes := #[36, 36] }, t, pos, af, none⟩ n l w M := by
  have hr := run_copy_row (P := Tryd.prog) w 36 36 t 5 g k dl dc ad sl sc cur e (cs.map u8v) Tryd.underlying36 sz5 hg (by simpa using hn) hsrc (by simpa using hfit) (u8v_one _)
  rw [List.length_map] at hr
  refine OP.val (v := .int .i64 cs.length) hdn (fun r _ _ _ _ _ he => ?_) (h _ (Chg.setRow _ _ _ rfl) (by simp) (setRow_heap _ _ _ _ _ _ hg))
  simp only [execOp, resolve, invoke, builtin, Sem.run_bind, Sem.run_pure, Result.andThen_ok, List.map_toArray, List.map_cons, List.map_nil, he x _ hx, he y _ hy]
  have e1 : ∀ ty, (Builtin.copy_ #[36, 36] ty #[.slice (some ⟨g, k, none⟩) dl dc, .slice (some ad) sl sc]).run Tryd.prog w = (Builtin.copy_ #[36, 36] t #[.slice (some ⟨g, k, none⟩) dl dc, .slice (some ad) sl sc]).run Tryd.prog w := fun _ => rfl
  rw [e1, hr]; rfl

/-! ### Results that stand in memory -/
theorem run_loadVarAgg {P : Program} {t : TypeId} {d : TypeDesc} {cs : List Value} {b o : Nat} {w : World} (ht : P.underlying t = some d) (hd : isAggD d = true) (hs : (P.info? t).map (·.size) = some cs.length) (hc : ∀ j u, cs[j]? = some u → w.cell? ⟨b, o + j, none⟩ = some u) :
    (loadVar t ⟨b, o, none⟩).run P w = .ok (.agg cs.toArray) w := by
  obtain ⟨i, hi, hz⟩ := Option.map_eq_some_iff.1 hs
  have h := run_loadCells_list (P := P) w ⟨b, o, none⟩ cs (fun j v hj => by rw [Addr.add_none]; exact hc j v hj)
  have hag : (isAgg t).run P w = .ok true w := by
    simp only [isAgg, Sem.run_bind, run_underlying ht, Result.andThen_ok]
    cases d <;> first | rfl | cases hd
  simp [loadVar, hag, sizeOf, typeInfo, hi, hz, h]
theorem EW.retC {fn : Func} {R : Ending → World → Prop} {ex : Exit} {s : Nat} {b : Nat} {ty : TypeId} {cs : List Value} {dd : TypeDesc} (he : ex = .ret ∨ ex = .normal) (hr : fn.results = #[.cell s ty]) (hs : Env.get l s = some (.pointer (some ⟨b, 0, none⟩)))
    (ht : Tryd.prog.underlying ty = some dd) (hd : isAggD dd = true) (hz : (Tryd.prog.info? ty).map (·.size) = some cs.length) (hc : ∀ j u, cs[j]? = some u → w.cell? ⟨b, j, none⟩ = some u) (hR : R (.returned (.agg cs.toArray)) w) : EW (bodyPost Tryd.prog fn R) ex n l w := by
  intro a ha
  have hres : (results fn a.tmps).run Tryd.prog w = .ok (.agg cs.toArray) w := by
    have hl := run_loadVarAgg (P := Tryd.prog) (b := b) (o := 0) (w := w) ht hd hz (fun j u hj => by rw [Nat.zero_add]; exact hc j u hj)
    unfold results
    rw [hr]
    simp [Array.getD_eq_getD_getElem?, ha.has s _ hs, asAddr, hl]
  rcases he with rfl | rfl <;> exact ⟨ha.defs, _, hres, hR⟩
theorem EW.retCT {fn : Func} {R : Ending → World → Prop} {ex : Exit} {s u : Nat} {b : Nat} {ty : TypeId} {cs : List Value} {v2 : Value} {dd : TypeDesc} (he : ex = .ret ∨ ex = .normal) (hr : fn.results = #[.cell s ty, .tmp u]) (hs : Env.get l s = some (.pointer (some ⟨b, 0, none⟩))) (hu : Env.get l u = some v2)
    (ht : Tryd.prog.underlying ty = some dd) (hd : isAggD dd = true) (hz : (Tryd.prog.info? ty).map (·.size) = some cs.length) (hc : ∀ j u, cs[j]? = some u → w.cell? ⟨b, j, none⟩ = some u) (hR : R (.returned (.tuple #[.agg cs.toArray, v2])) w) : EW (bodyPost Tryd.prog fn R) ex n l w := by
  intro a ha
  have hres : (results fn a.tmps).run Tryd.prog w = .ok (.tuple #[.agg cs.toArray, v2]) w := by
    have hl := run_loadVarAgg (P := Tryd.prog) (b := b) (o := 0) (w := w) ht hd hz (fun j u hj => by rw [Nat.zero_add]; exact hc j u hj)
    unfold results
    rw [hr]
    simp [Array.getD_eq_getD_getElem?, ha.has s _ hs, ha.has u _ hu, asAddr, hl]
  rcases he with rfl | rfl <;> exact ⟨ha.defs, _, hres, hR⟩

/-- Two that may come up: either first. -/
theorem AH.either {P : Program} {ops : Array Oper} {fuel : Nat} {listed : Array Bool} {S : World → Prop} (i j : Nat) {oi oj : Oper} (hr : Region.ready .any ops listed = [i, j]) (hi : ops[i]? = some oi) (hj : ops[j]? = some oj) (hgi : oi.guard = none) (hgj : oj.guard = none)
    (h1 : OP P Q oi n l w (fun l' w' => S w' ∧ AH P ops Q S fuel (listed.setIfInBounds i true) n l' w'))
    (h2 : OP P Q oj n l w (fun l' w' => S w' ∧ AH P ops Q S fuel (listed.setIfInBounds j true) n l' w')) : AH P ops Q S (fuel + 1) listed n l w := by
  intro a ha
  refine wpAnyH_all hr (by simp) ?_
  intro i' hi'
  rcases List.mem_cons.1 hi' with rfl | hi'
  · unfold wpOp
    simp only [hi, Region.wanted, hgi, if_true]
    exact .inl (h1 a ha _ (fun l' w' hM a' ha' => ⟨hM.1, hM.2 a' ha'⟩))
  · obtain rfl := List.mem_singleton.1 hi'
    unfold wpOp
    simp only [hj, Region.wanted, hgj, if_true]
    exact .inl (h2 a ha _ (fun l' w' hM a' ha' => ⟨hM.1, hM.2 a' ha'⟩))
end
end Go.Proofs.YthcpjcgjmdfpjaaDoor

namespace Go.Proofs.YthcpjcgjmdfpjaaDoor
open Go Go.RowKit
set_option maxRecDepth 100000
set_option maxHeartbeats 4000000

theorem build57_2 (s : List UInt8) (t : Int) (w : World) : (Instr.build 57 #[(0, sv s), (1, .int .i64 t)]).run Tryd.prog w = .ok (Rec.val ⟨s, t, 0, zero16, [], []⟩) w := by unfold sv; kernel_rfl
theorem build57_0 (w : World) : (Instr.build 57 #[]).run Tryd.prog w = .ok (Rec.val ⟨[], 0, 0, zero16, [], []⟩) w := by kernel_rfl
theorem inf108 : ∃ i, Tryd.prog.info? 108 = some i ∧ i.size = 12 := inf_of sz108
theorem u8v_all (l : List UInt8) : (l.map u8v).toArray.all (·.oneCell') = true := by
  rw [Array.all_eq_true_iff_forall_mem]
  intro u hu
  exact u8v_one _ u (by simpa using hu)
theorem guard5 {b : Bool} {v n m : Nat} : b = true ∨ (b = false ∧ v ≠ 1) ∨ (b = false ∧ v = 1 ∧ m < n) ∨ (b = false ∧ v = 1 ∧ n ≤ m) := by
  cases b <;> simp <;> omega
theorem Buf.open {w : World} {base : Nat} {v : Value} {bs : List UInt8} (h : Buf w base v bs) (h0 : bs ≠ []) : ∃ g cap, v = .slice (some ⟨g, 0, none⟩) bs.length cap ∧ base ≤ g ∧ g < w.heap.size ∧ bs.length ≤ cap ∧ ∀ (j : Nat) (b : UInt8), bs[j]? = some b → w.cell? ⟨g, j, none⟩ = some (u8v b) := by
  have h' := h
  rcases h.2 with ⟨rfl, hn⟩ | ⟨g, cap, cur, rfl, hb, hg, hle, r⟩
  · exact absurd (List.eq_nil_of_length_eq_zero hn) h0
  · exact ⟨g, cap, rfl, hb, (Array.getElem?_eq_some_iff.1 hg).1, hle, fun j b hj => h'.cell hj⟩
theorem cells_at {w : World} {g o : Nat} {dat : List UInt8} (h : ∀ (j : Nat) (b : UInt8), dat[j]? = some b → w.cell? ⟨g, o + j, none⟩ = some (u8v b)) : ∀ j u, (dat.map u8v)[j]? = some u → w.cell? ((⟨g, o, none⟩ : Addr).add j) = some u := by
  intro j u hj
  rw [Addr.add_none]
  rw [List.getElem?_map, Option.map_eq_some_iff] at hj
  obtain ⟨b, hb, rfl⟩ := hj
  exact h j b hb
theorem cells_at0 {w : World} {g : Nat} {dat : List UInt8} (h : ∀ (j : Nat) (b : UInt8), dat[j]? = some b → w.cell? ⟨g, j, none⟩ = some (u8v b)) : ∀ j u, (dat.map u8v)[j]? = some u → w.cell? ((⟨g, 0, none⟩ : Addr).add j) = some u :=
  cells_at (fun j b hj => by rw [Nat.zero_add]; exact h j b hj)
theorem data_at {w : World} {bs : List UInt8} {g o a v c : Nat} (h : ∀ (j : Nat) (b : UInt8), bs[j]? = some b → w.cell? ⟨g, o + j, none⟩ = some (u8v b)) (hl : a + v ≤ bs.length) (hc : bs.length ≤ c) :
    ∃ g2 o2, (if c = a then (⟨g, o, none⟩ : Addr) else ⟨g, o + a, none⟩) = ⟨g2, o2, none⟩ ∧ g = g2 ∧ ∀ (j : Nat) (b : UInt8), ((bs.drop a).take v)[j]? = some b → w.cell? ⟨g2, o2 + j, none⟩ = some (u8v b) := by
  by_cases e : c = a
  · refine ⟨g, o, if_pos e, rfl, fun j b hj => ?_⟩
    have := (List.getElem?_eq_some_iff.1 hj).1
    simp at this; omega
  · refine ⟨g, o + a, if_neg e, rfl, fun j b hj => ?_⟩
    rw [List.getElem?_take] at hj
    split at hj
    · rw [List.getElem?_drop] at hj; rw [Nat.add_assoc]; exact h (a + j) b hj
    · cases hj

def BodyRes (res : Option Rec) (r : Rec) (b : Bool) : Prop :=
  match res with
  | some r0 => r = r0 ∧ b = false
  | none => b = true
theorem rr_false {res : Option Rec} {r : Rec} {e : Nat} {b : Bool} (h : BodyRes res r b) (hr : rightR r = false) : RecRes (finR res e) r e true := by
  cases res with
  | none => rfl
  | some r0 => obtain ⟨rfl, _⟩ := h; simp only [finR]; rw [if_neg (by simp [hr])]; rfl
theorem rr_true {res : Option Rec} {r : Rec} {e : Nat} {b : Bool} (h : BodyRes res r b) (hr : rightR r = true) : RecRes (finR res e) r e b := by
  cases res with
  | none => exact h
  | some r0 => obtain ⟨rfl, rfl⟩ := h; simp only [finR]; rw [if_pos hr]; exact ⟨rfl, rfl, rfl⟩
section
variable {bs nm s2 : List UInt8} {ty a n a6 : Nat} {ttl : Int} {b6 : Bool}
theorem body_a (h : ty = 1) (h2 : n = 4) : recBody bs nm ty ttl a n = some ⟨nm, ty, ttl, mappedL ++ (bs.drop a).take n, [], []⟩ := by rw [recBody, if_pos ⟨h, h2⟩]
theorem body_aaaa (h : ty = 28) (h2 : n = 16) : recBody bs nm ty ttl a n = some ⟨nm, ty, ttl, (bs.drop a).take n, [], []⟩ := by rw [recBody, if_neg (by omega), if_pos ⟨h, h2⟩]
theorem body_far (h : ty = 2 ∨ ty = 5 ∨ ty = 12) (hn : if false = true then NameRes none s2 a6 b6 else NameRes (rdName bs 300 a 0 0 [] a) s2 a6 b6) (hne : a6 ≠ a + n) : recBody bs nm ty ttl a n = none := by
  rw [recBody, if_neg (by omega), if_neg (by omega), if_pos h]
  cases b6 with
  | true => rcases nres_no hn with h1 | h1
            · cases h1
            · rw [h1]
  | false => rw [(nres_ok hn).2]; simp only; rw [if_neg hne]
theorem body_near (h : ty = 2 ∨ ty = 5 ∨ ty = 12) (hn : if false = true then NameRes none s2 a6 b6 else NameRes (rdName bs 300 a 0 0 [] a) s2 a6 b6) (hne : a6 = a + n) : BodyRes (recBody bs nm ty ttl a n) ⟨nm, ty, ttl, zero16, s2, []⟩ b6 := by
  rw [recBody, if_neg (by omega), if_neg (by omega), if_pos h]
  cases b6 with
  | true => rcases nres_no hn with h1 | h1
            · cases h1
            · rw [h1]; rfl
  | false => rw [(nres_ok hn).2]; simp only; rw [if_pos hne]; exact ⟨rfl, rfl⟩
theorem body_other (h1 : ¬ (ty = 1 ∧ n = 4)) (h2 : ¬ (ty = 28 ∧ n = 16)) (h3 : ¬ (ty = 2 ∨ ty = 5 ∨ ty = 12)) : recBody bs nm ty ttl a n = some ⟨nm, ty, ttl, zero16, [], (bs.drop a).take n⟩ := by
  rw [recBody, if_neg h1, if_neg h2, if_neg h3]
end
section
variable {bs : List UInt8} {a : Nat} {bad : Bool} {s : List UInt8} {a1 a2 a3 a4 a5 v2 v3 v4 v5 : Nat} {b1 b2 b3 b4 : Bool}
theorem chain_body (h1 : if bad = true then NameRes none s a1 b1 else NameRes (rdName bs 300 a 0 0 [] a) s a1 b1) (e2 : numR bs 2 a1 b1 = (v2, a2, b2)) (e3 : numR bs 2 a2 b2 = (v3, a3, b3)) (e4 : numR bs 4 a3 b3 = (v4, a4, b4)) (e5 : numR bs 2 a4 b4 = (v5, a5, false)) (hc : v3 = 1) (hl : a5 + v5 ≤ bs.length) :
    (if bad = true then none else readRec bs a) = finR (recBody bs s v2 (ttlOf v4) a5 v5) (a5 + v5) := by
  obtain ⟨rfl, hn, hl1, rfl, rfl, rfl, rfl, rfl⟩ := chain_ok h1 e2 e3 e4 e5 rfl
  rw [if_neg (by simp), readRec_body hn hl1 hc hl]
end

theorem rrec_any (rb : Nat) (A : Option Addr) (m c : Nat) (bs : List UInt8) (a : Nat) (bad : Bool) (w : World) (hR : RSt w rb A m c a bad) (hS : Src w A m c bs) (hg : ∀ g o, A = some ⟨g, o, none⟩ → g ≠ rb ∧ g < w.heap.size) (ha : In bs a bad) (hm : m ≤ 1099511627776) (hG : Glob w) (hrb0 : rb ≠ 0) :
    Calls Tryd.prog 47 #[.pointer (some ⟨rb, 0, none⟩)] w fun e w' => ∃ r a' bad', e = .returned r.val ∧ r.addr.length = 16 ∧ RSt w' rb A m c a' bad' ∧ Chg (fun k => k = rb) w w' ∧ RecRes (if bad = true then none else readRec bs a) r a' bad' ∧ In bs a' bad' ∧ r.small := by
  have hrb : rb < w.heap.size := (Array.getElem?_eq_some_iff.1 hR).1
  have hlen := hS.len
  refine calls_cw (args := [.pointer (some ⟨rb, 0, none⟩)]) Tryd.func47 rfl rfl ?_
  show CW _ _ _ 131 [(0, .pointer (some ⟨rb, 0, none⟩))] w
  refine CW.rseq ?_
  refine WL.eff rfl (OP.allocR (by decide) ?_)
  intro w1 hc1 hs1 hB2
  have hC : Chg (fun k => k = rb) w w1 := hc1.mono (fun _ _ h => h.elim)
  have hS := hS.kept hc1 (fun _ _ _ h => h)
  have hG := hG.kept hc1 (fun h => h)
  have hR := hc1.at hR (fun h => h)
  have hsz : w.heap.size < w1.heap.size := by omega
  refine WL.next ?_
  refine CW.rseq ?_
  refine WL.op (by decide) (R.move rfl) ?_
  refine WL.eff rfl (OP.call (by decide) Tryd.func46 (by kernel_rfl) (by kernel_rfl) rfl (rname_st rb A m c bs a bad _ hR hS (fun g o h => (hg g o h).1) ha hm) ?_)
  rintro ed w2 ⟨s, a1, b1, rfl, hR, hc2, h1, hsl0⟩
  refine ⟨_, rfl, ?_⟩
  have hsl : s.length ≤ 1099511627776 := by omega
  have hin1 := nres_in h1
  have hC := hC.trans hc2
  have hS := hS.kept hc2 (fun g o h => (hg g o h).1)
  have hG := hG.kept hc2 (by omega)
  have hsz := Nat.le_trans hsz hc2.size
  have hB2 := hc2.at hB2 (by omega)
  refine WL.op (by decide) (R.move rfl) ?_
  refine WL.eff rfl (OP.call (by decide) Tryd.func45 (by kernel_rfl) (by kernel_rfl) rfl (num_st rb A m c bs 2 _ _ _ hR hS (by decide) (by decide) hin1 hm) ?_)
  rintro ed w3 ⟨v2, a2, b2, e2, rfl, hR, hc3⟩
  refine ⟨_, rfl, ?_⟩
  have hin3 := numR_in e2
  have hC := hC.trans hc3
  have hS := hS.kept hc3 (fun g o h => (hg g o h).1)
  have hG := hG.kept hc3 (by omega)
  have hsz := Nat.le_trans hsz hc3.size
  have hB2 := hc3.at hB2 (by omega)
  refine WL.op (by decide) (R.build (parts := [(0, _), (1, _)]) (vals := [(0, _), (1, _)]) rfl (fun w => build57_2 _ _ w)) ?_
  refine WL.eff rfl (OP.allocR (by decide) ?_)
  intro w4 hc4 hs4 hB3
  have hC := hC.trans (hc4.mono (fun _ _ h => h.elim))
  have hS := hS.kept hc4 (fun _ _ _ h => h)
  have hG := hG.kept hc4 (fun h => h)
  have hR := hc4.at hR (fun h => h)
  have hB2 := hc4.at hB2 (fun h => h)
  refine WL.eff rfl (OP.storeR rfl rfl (by rfl) (by rfl) hB3 ?_)
  intro w5 hc5 hs5 hB3
  have hC := hC.then hc5 (fun k hk e => by omega)
  have hS := hS.kept hc5 (fun g o h e => by have := hg g o h; omega)
  have hG := hG.kept hc5 (by omega)
  have hR := hc5.at hR (by omega)
  have hB2 := hc5.at hB2 (by omega)
  have hsz : w4.heap.size ≤ w5.heap.size := by omega
  refine WL.next ?_
  refine CW.rseq ?_
  refine WL.op (by decide) (R.move rfl) ?_
  refine WL.eff rfl (OP.call (by decide) Tryd.func45 (by kernel_rfl) (by kernel_rfl) rfl (num_st rb A m c bs 2 _ _ _ hR hS (by decide) (by decide) hin3 hm) ?_)
  rintro ed w6 ⟨v3, a3, b3, e3, rfl, hR, hc6⟩
  refine ⟨_, rfl, ?_⟩
  have hin6 := numR_in e3
  have hC := hC.trans hc6
  have hS := hS.kept hc6 (fun g o h => (hg g o h).1)
  have hG := hG.kept hc6 (by omega)
  have hsz := Nat.le_trans hsz hc6.size
  have hB2 := hc6.at hB2 (by omega)
  have hB3 := hc6.at hB3 (by omega)
  refine WL.op (by decide) (R.assign rfl) ?_
  refine WL.next ?_
  refine CW.rseq ?_
  refine WL.op (by decide) (R.move rfl) ?_
  refine WL.eff rfl (OP.call (by decide) Tryd.func45 (by kernel_rfl) (by kernel_rfl) rfl (num_st rb A m c bs 4 _ _ _ hR hS (by decide) (by decide) hin6 hm) ?_)
  rintro ed w7 ⟨v4, a4, b4, e4, rfl, hR, hc7⟩
  refine ⟨_, rfl, ?_⟩
  have hin7 := numR_in e4
  have hC := hC.trans hc7
  have hS := hS.kept hc7 (fun g o h => (hg g o h).1)
  have hG := hG.kept hc7 (by omega)
  have hsz := Nat.le_trans hsz hc7.size
  have hB2 := hc7.at hB2 (by omega)
  have hB3 := hc7.at hB3 (by omega)
  refine WL.op (by decide) (R.minC rfl rfl) ?_
  refine WL.op (by decide) (FA57_2 rfl) ?_
  refine WL.eff rfl (OP.store1 sz3 rfl rfl rfl rfl hB3 (by rw [List.size_toArray, Rec.length rfl]; decide) rfl ?_)
  intro w8 hc8 hs8 hB3n
  have hB3 := hB3n
  rw [show (0 + 2 : Nat) = 2 from rfl, Rec.set2] at hB3
  have hC := hC.then hc8 (fun k hk e => by omega)
  have hS := hS.kept hc8 (fun g o h e => by have := hg g o h; omega)
  have hG := hG.kept hc8 (by omega)
  have hR := hc8.at hR (by omega)
  have hB2 := hc8.at hB2 (by omega)
  have hsz := Nat.le_trans hsz hc8.size
  refine WL.next ?_
  refine CW.rseq ?_
  refine WL.op (by decide) (R.move rfl) ?_
  refine WL.eff rfl (OP.call (by decide) Tryd.func45 (by kernel_rfl) (by kernel_rfl) rfl (num_st rb A m c bs 2 _ _ _ hR hS (by decide) (by decide) hin7 hm) ?_)
  rintro ed w9 ⟨v5, a5, b5, e5, rfl, hR, hc9⟩
  refine ⟨_, rfl, ?_⟩
  have hin9 := numR_in e5
  have hC := hC.trans hc9
  have hS := hS.kept hc9 (fun g o h => (hg g o h).1)
  have hG := hG.kept hc9 (by omega)
  have hsz := Nat.le_trans hsz hc9.size
  have hB2 := hc9.at hB2 (by omega)
  have hB3 := hc9.at hB3 (by omega)
  refine WL.op (by decide) (R.assign rfl) ?_
  refine WL.next ?_
  refine CW.seq ?_
  refine CW.seq ?_
  rcases guard5 (b := b5) (v := v3) (n := a5 + v5) (m := bs.length) with hgd | hgd | hgd | hgd
  · skip
    obtain rfl := hgd
    refine CW.draw (fun w => RSt w rb A m c a5 true) (by kernel_rfl) ?_
    refine AH.take 0 rfl (by kernel_rfl) (by kernel_rfl) (by kernel_rfl) (fun _ _ _ _ h => h) hR (by decide) (fun w hS => R.move rfl) ?_
    refine AH.take 1 rfl (by kernel_rfl) (by kernel_rfl) (by kernel_rfl) (fun _ _ _ _ h => h) hR (by decide) (fun w hS => R.nilCheck rfl) ?_
    refine AH.take 2 rfl (by kernel_rfl) (by kernel_rfl) (by kernel_rfl) (fun _ _ _ _ h => h) hR (by decide) (fun w hS => FA100_2 rfl) ?_
    refine AH.take 3 rfl (by kernel_rfl) (by kernel_rfl) (by kernel_rfl) (fun _ _ _ _ h => h) hR (by decide) (fun w hS => R.load Tryd.underlying4 rfl rfl (cell_at hS rfl)) ?_
    refine AH.take 4 rfl (by kernel_rfl) (by kernel_rfl) (by kernel_rfl) (fun _ _ _ _ h => h) hR (by decide) (fun w hS => R.move rfl) ?_
    refine AH.pass 5 rfl (by kernel_rfl) (by kernel_rfl) (by kernel_rfl) (fun _ _ _ _ h => h) hR (by decide) rfl rfl rfl ?_
    refine AH.pass 6 rfl (by kernel_rfl) (by kernel_rfl) (by kernel_rfl) (fun _ _ _ _ h => h) hR (by decide) rfl rfl rfl ?_
    refine AH.take 7 rfl (by kernel_rfl) (by kernel_rfl) (by kernel_rfl) (fun _ _ _ _ h => h) hR (by decide) (fun w hS => R.pickT rfl rfl) ?_
    refine AH.take 8 rfl (by kernel_rfl) (by kernel_rfl) (by kernel_rfl) (fun _ _ _ _ h => h) hR (by decide) (fun w hS => R.move rfl) ?_
    refine AH.pass 9 rfl (by kernel_rfl) (by kernel_rfl) (by kernel_rfl) (fun _ _ _ _ h => h) hR (by decide) rfl rfl rfl ?_
    refine AH.pass 10 rfl (by kernel_rfl) (by kernel_rfl) (by kernel_rfl) (fun _ _ _ _ h => h) hR (by decide) rfl rfl rfl ?_
    refine AH.pass 11 rfl (by kernel_rfl) (by kernel_rfl) (by kernel_rfl) (fun _ _ _ _ h => h) hR (by decide) rfl rfl rfl ?_
    refine AH.pass 12 rfl (by kernel_rfl) (by kernel_rfl) (by kernel_rfl) (fun _ _ _ _ h => h) hR (by decide) rfl rfl rfl ?_
    refine AH.pass 13 rfl (by kernel_rfl) (by kernel_rfl) (by kernel_rfl) (fun _ _ _ _ h => h) hR (by decide) rfl rfl rfl ?_
    refine AH.pass 14 rfl (by kernel_rfl) (by kernel_rfl) (by kernel_rfl) (fun _ _ _ _ h => h) hR (by decide) rfl rfl rfl ?_
    refine AH.pass 15 rfl (by kernel_rfl) (by kernel_rfl) (by kernel_rfl) (fun _ _ _ _ h => h) hR (by decide) rfl rfl rfl ?_
    refine AH.pass 16 rfl (by kernel_rfl) (by kernel_rfl) (by kernel_rfl) (fun _ _ _ _ h => h) hR (by decide) rfl rfl rfl ?_
    refine AH.pass 17 rfl (by kernel_rfl) (by kernel_rfl) (by kernel_rfl) (fun _ _ _ _ h => h) hR (by decide) rfl rfl rfl ?_
    refine AH.pass 18 rfl (by kernel_rfl) (by kernel_rfl) (by kernel_rfl) (fun _ _ _ _ h => h) hR (by decide) rfl rfl rfl ?_
    refine AH.pass 19 rfl (by kernel_rfl) (by kernel_rfl) (by kernel_rfl) (fun _ _ _ _ h => h) hR (by decide) rfl rfl rfl ?_
    refine AH.pass 20 rfl (by kernel_rfl) (by kernel_rfl) (by kernel_rfl) (fun _ _ _ _ h => h) hR (by decide) rfl rfl rfl ?_
    refine AH.take 21 rfl (by kernel_rfl) (by kernel_rfl) (by kernel_rfl) (fun _ _ _ _ h => h) hR (by decide) (fun w hS => R.pickT rfl rfl) ?_
    refine AH.done (by kernel_rfl) ?_
    have hC := hC.trans (Chg.drew _ _)
    have hS := hS.kept (Chg.drew (fun _ => False) _) (fun _ _ _ h => h)
    have hG := hG.kept (Chg.drew (fun _ => False) _) (fun h => h)
    have hsz := Nat.le_trans hsz (Chg.drew (fun _ => False) _).size
    have hgd : (true = true ∨ (true = false ∧ v3 ≠ 1) ∨ (true = false ∧ bs.length < a5 + v5)) := .inl rfl
    refine EW.next ?_
    refine CW.condT rfl ?_
    refine CW.rseq ?_
    refine WL.op (by decide) (R.move rfl) ?_
    refine WL.op (by decide) (R.nilCheck rfl) ?_
    refine WL.op (by decide) (FA100_2 rfl) ?_
    refine WL.eff rfl (OP.store1 sz4 rfl rfl rfl rfl hR (Nat.le_of_ble_eq_true rfl) rfl ?_)
    intro w10 hcs _ hR
    have hC := hC.trans hcs
    have hS := hS.kept hcs (fun g o h => (hg g o h).1)
    have hG := hG.kept hcs (by omega)
    have hsz := Nat.le_trans hsz hcs.size
    have hB2 := hcs.at hB2 (by omega)
    have hB3 := hcs.at hB3 (by omega)
    refine WL.next ?_
    refine CW.rseq ?_
    refine WL.op (by decide) (R.build (parts := []) (vals := []) rfl (fun w => build57_0 w)) ?_
    refine WL.eff rfl (OP.storeR (r := ⟨[], 0, 0, zero16, [], []⟩) rfl rfl rfl rfl hB2 ?_)
    intro w11 hc11 hs11 hB2
    have hC := hC.then hc11 (fun k hk e => by omega)
    have hR := hc11.at hR (by omega)
    refine WL.next ?_
    refine CW.ret ?_
    refine EW.thenRet ?_
    exact EW.retC (.inl rfl) rfl rfl (cs := Rec.cells ⟨[], 0, 0, zero16, [], []⟩) Tryd.underlying57 rfl sz57 (fun j u hj => cell_at hB2 (by rw [List.getElem?_toArray]; exact hj)) ⟨_, _, true, rfl, rfl, hR, hC, by rw [chain_bad h1 e2 e3 e4 e5 hgd]; rfl, (fun h => by cases h), ⟨by simp, by simp, by simp⟩⟩
  · skip
    obtain ⟨rfl, hgd⟩ := hgd
    refine CW.draw (fun w => RSt w rb A m c a5 false) (by kernel_rfl) ?_
    refine AH.take 0 rfl (by kernel_rfl) (by kernel_rfl) (by kernel_rfl) (fun _ _ _ _ h => h) hR (by decide) (fun w hS => R.move rfl) ?_
    refine AH.take 1 rfl (by kernel_rfl) (by kernel_rfl) (by kernel_rfl) (fun _ _ _ _ h => h) hR (by decide) (fun w hS => R.nilCheck rfl) ?_
    refine AH.take 2 rfl (by kernel_rfl) (by kernel_rfl) (by kernel_rfl) (fun _ _ _ _ h => h) hR (by decide) (fun w hS => FA100_2 rfl) ?_
    refine AH.take 3 rfl (by kernel_rfl) (by kernel_rfl) (by kernel_rfl) (fun _ _ _ _ h => h) hR (by decide) (fun w hS => R.load Tryd.underlying4 rfl rfl (cell_at hS rfl)) ?_
    refine AH.take 4 rfl (by kernel_rfl) (by kernel_rfl) (by kernel_rfl) (fun _ _ _ _ h => h) hR (by decide) (fun w hS => R.move rfl) ?_
    refine AH.takeG 5 rfl (by kernel_rfl) (by kernel_rfl) (by kernel_rfl) (fun _ _ _ _ h => h) hR (by decide) rfl rfl rfl (fun w hS => R.move rfl) ?_
    refine AH.takeG 6 rfl (by kernel_rfl) (by kernel_rfl) (by kernel_rfl) (fun _ _ _ _ h => h) hR (by decide) rfl rfl rfl (fun w hS => R.neq rfl rfl (c := true) (decide_eq_true (by omega))) ?_
    refine AH.take 7 rfl (by kernel_rfl) (by kernel_rfl) (by kernel_rfl) (fun _ _ _ _ h => h) hR (by decide) (fun w hS => R.pickF rfl rfl) ?_
    refine AH.take 8 rfl (by kernel_rfl) (by kernel_rfl) (by kernel_rfl) (fun _ _ _ _ h => h) hR (by decide) (fun w hS => R.move rfl) ?_
    refine AH.pass 9 rfl (by kernel_rfl) (by kernel_rfl) (by kernel_rfl) (fun _ _ _ _ h => h) hR (by decide) rfl rfl rfl ?_
    refine AH.pass 10 rfl (by kernel_rfl) (by kernel_rfl) (by kernel_rfl) (fun _ _ _ _ h => h) hR (by decide) rfl rfl rfl ?_
    refine AH.pass 11 rfl (by kernel_rfl) (by kernel_rfl) (by kernel_rfl) (fun _ _ _ _ h => h) hR (by decide) rfl rfl rfl ?_
    refine AH.pass 12 rfl (by kernel_rfl) (by kernel_rfl) (by kernel_rfl) (fun _ _ _ _ h => h) hR (by decide) rfl rfl rfl ?_
    refine AH.pass 13 rfl (by kernel_rfl) (by kernel_rfl) (by kernel_rfl) (fun _ _ _ _ h => h) hR (by decide) rfl rfl rfl ?_
    refine AH.pass 14 rfl (by kernel_rfl) (by kernel_rfl) (by kernel_rfl) (fun _ _ _ _ h => h) hR (by decide) rfl rfl rfl ?_
    refine AH.pass 15 rfl (by kernel_rfl) (by kernel_rfl) (by kernel_rfl) (fun _ _ _ _ h => h) hR (by decide) rfl rfl rfl ?_
    refine AH.pass 16 rfl (by kernel_rfl) (by kernel_rfl) (by kernel_rfl) (fun _ _ _ _ h => h) hR (by decide) rfl rfl rfl ?_
    refine AH.pass 17 rfl (by kernel_rfl) (by kernel_rfl) (by kernel_rfl) (fun _ _ _ _ h => h) hR (by decide) rfl rfl rfl ?_
    refine AH.pass 18 rfl (by kernel_rfl) (by kernel_rfl) (by kernel_rfl) (fun _ _ _ _ h => h) hR (by decide) rfl rfl rfl ?_
    refine AH.pass 19 rfl (by kernel_rfl) (by kernel_rfl) (by kernel_rfl) (fun _ _ _ _ h => h) hR (by decide) rfl rfl rfl ?_
    refine AH.pass 20 rfl (by kernel_rfl) (by kernel_rfl) (by kernel_rfl) (fun _ _ _ _ h => h) hR (by decide) rfl rfl rfl ?_
    refine AH.take 21 rfl (by kernel_rfl) (by kernel_rfl) (by kernel_rfl) (fun _ _ _ _ h => h) hR (by decide) (fun w hS => R.pickT rfl rfl) ?_
    refine AH.done (by kernel_rfl) ?_
    have hC := hC.trans (Chg.drew _ _)
    have hS := hS.kept (Chg.drew (fun _ => False) _) (fun _ _ _ h => h)
    have hG := hG.kept (Chg.drew (fun _ => False) _) (fun h => h)
    have hsz := Nat.le_trans hsz (Chg.drew (fun _ => False) _).size
    replace hgd : (false = true ∨ (false = false ∧ v3 ≠ 1) ∨ (false = false ∧ bs.length < a5 + v5)) := .inr (.inl ⟨rfl, hgd⟩)
    refine EW.next ?_
    refine CW.condT rfl ?_
    refine CW.rseq ?_
    refine WL.op (by decide) (R.move rfl) ?_
    refine WL.op (by decide) (R.nilCheck rfl) ?_
    refine WL.op (by decide) (FA100_2 rfl) ?_
    refine WL.eff rfl (OP.store1 sz4 rfl rfl rfl rfl hR (Nat.le_of_ble_eq_true rfl) rfl ?_)
    intro w10 hcs _ hR
    have hC := hC.trans hcs
    have hS := hS.kept hcs (fun g o h => (hg g o h).1)
    have hG := hG.kept hcs (by omega)
    have hsz := Nat.le_trans hsz hcs.size
    have hB2 := hcs.at hB2 (by omega)
    have hB3 := hcs.at hB3 (by omega)
    refine WL.next ?_
    refine CW.rseq ?_
    refine WL.op (by decide) (R.build (parts := []) (vals := []) rfl (fun w => build57_0 w)) ?_
    refine WL.eff rfl (OP.storeR (r := ⟨[], 0, 0, zero16, [], []⟩) rfl rfl rfl rfl hB2 ?_)
    intro w11 hc11 hs11 hB2
    have hC := hC.then hc11 (fun k hk e => by omega)
    have hR := hc11.at hR (by omega)
    refine WL.next ?_
    refine CW.ret ?_
    refine EW.thenRet ?_
    exact EW.retC (.inl rfl) rfl rfl (cs := Rec.cells ⟨[], 0, 0, zero16, [], []⟩) Tryd.underlying57 rfl sz57 (fun j u hj => cell_at hB2 (by rw [List.getElem?_toArray]; exact hj)) ⟨_, _, true, rfl, rfl, hR, hC, by rw [chain_bad h1 e2 e3 e4 e5 hgd]; rfl, (fun h => by cases h), ⟨by simp, by simp, by simp⟩⟩
  · skip
    obtain ⟨rfl, hgv, hgd⟩ := hgd
    have hin5 := hin9 rfl
    have hv5 := numR_lt2 e5
    refine CW.draw (fun w => RSt w rb A m c a5 false) (by kernel_rfl) ?_
    refine AH.take 0 rfl (by kernel_rfl) (by kernel_rfl) (by kernel_rfl) (fun _ _ _ _ h => h) hR (by decide) (fun w hS => R.move rfl) ?_
    refine AH.take 1 rfl (by kernel_rfl) (by kernel_rfl) (by kernel_rfl) (fun _ _ _ _ h => h) hR (by decide) (fun w hS => R.nilCheck rfl) ?_
    refine AH.take 2 rfl (by kernel_rfl) (by kernel_rfl) (by kernel_rfl) (fun _ _ _ _ h => h) hR (by decide) (fun w hS => FA100_2 rfl) ?_
    refine AH.take 3 rfl (by kernel_rfl) (by kernel_rfl) (by kernel_rfl) (fun _ _ _ _ h => h) hR (by decide) (fun w hS => R.load Tryd.underlying4 rfl rfl (cell_at hS rfl)) ?_
    refine AH.take 4 rfl (by kernel_rfl) (by kernel_rfl) (by kernel_rfl) (fun _ _ _ _ h => h) hR (by decide) (fun w hS => R.move rfl) ?_
    refine AH.takeG 5 rfl (by kernel_rfl) (by kernel_rfl) (by kernel_rfl) (fun _ _ _ _ h => h) hR (by decide) rfl rfl rfl (fun w hS => R.move rfl) ?_
    refine AH.takeG 6 rfl (by kernel_rfl) (by kernel_rfl) (by kernel_rfl) (fun _ _ _ _ h => h) hR (by decide) rfl rfl rfl (fun w hS => R.neq rfl rfl (c := false) (decide_eq_false (by omega))) ?_
    refine AH.take 7 rfl (by kernel_rfl) (by kernel_rfl) (by kernel_rfl) (fun _ _ _ _ h => h) hR (by decide) (fun w hS => R.pickF rfl rfl) ?_
    refine AH.take 8 rfl (by kernel_rfl) (by kernel_rfl) (by kernel_rfl) (fun _ _ _ _ h => h) hR (by decide) (fun w hS => R.move rfl) ?_
    refine AH.takeG 9 rfl (by kernel_rfl) (by kernel_rfl) (by kernel_rfl) (fun _ _ _ _ h => h) hR (by decide) rfl rfl rfl (fun w hS => R.move rfl) ?_
    refine AH.takeG 10 rfl (by kernel_rfl) (by kernel_rfl) (by kernel_rfl) (fun _ _ _ _ h => h) hR (by decide) rfl rfl rfl (fun w hS => R.nilCheck rfl) ?_
    refine AH.takeG 11 rfl (by kernel_rfl) (by kernel_rfl) (by kernel_rfl) (fun _ _ _ _ h => h) hR (by decide) rfl rfl rfl (fun w hS => FA100_1 rfl) ?_
    refine AH.takeG 12 rfl (by kernel_rfl) (by kernel_rfl) (by kernel_rfl) (fun _ _ _ _ h => h) hR (by decide) rfl rfl rfl (fun w hS => R.load Tryd.underlying3 rfl rfl (cell_at hS rfl)) ?_
    refine AH.takeG 13 rfl (by kernel_rfl) (by kernel_rfl) (by kernel_rfl) (fun _ _ _ _ h => h) hR (by decide) rfl rfl rfl (fun w hS => R.move rfl) ?_
    refine AH.takeG 14 rfl (by kernel_rfl) (by kernel_rfl) (by kernel_rfl) (fun _ _ _ _ h => h) hR (by decide) rfl rfl rfl (fun w hS => R.add rfl rfl (by omega)) ?_
    refine AH.takeG 15 rfl (by kernel_rfl) (by kernel_rfl) (by kernel_rfl) (fun _ _ _ _ h => h) hR (by decide) rfl rfl rfl (fun w hS => R.move rfl) ?_
    refine AH.takeG 16 rfl (by kernel_rfl) (by kernel_rfl) (by kernel_rfl) (fun _ _ _ _ h => h) hR (by decide) rfl rfl rfl (fun w hS => R.nilCheck rfl) ?_
    refine AH.takeG 17 rfl (by kernel_rfl) (by kernel_rfl) (by kernel_rfl) (fun _ _ _ _ h => h) hR (by decide) rfl rfl rfl (fun w hS => FA100_0 rfl) ?_
    refine AH.takeG 18 rfl (by kernel_rfl) (by kernel_rfl) (by kernel_rfl) (fun _ _ _ _ h => h) hR (by decide) rfl rfl rfl (fun w hS => R.load Tryd.underlying36 rfl rfl (cell_at hS rfl)) ?_
    refine AH.takeG 19 rfl (by kernel_rfl) (by kernel_rfl) (by kernel_rfl) (fun _ _ _ _ h => h) hR (by decide) rfl rfl rfl (fun w hS => R.lenSlice rfl Tryd.underlying36 rfl) ?_
    refine AH.takeG 20 rfl (by kernel_rfl) (by kernel_rfl) (by kernel_rfl) (fun _ _ _ _ h => h) hR (by decide) rfl rfl rfl (fun w hS => R.gtr rfl rfl (c := true) (decide_eq_true (by omega))) ?_
    refine AH.take 21 rfl (by kernel_rfl) (by kernel_rfl) (by kernel_rfl) (fun _ _ _ _ h => h) hR (by decide) (fun w hS => R.pickF rfl rfl) ?_
    refine AH.done (by kernel_rfl) ?_
    have hC := hC.trans (Chg.drew _ _)
    have hS := hS.kept (Chg.drew (fun _ => False) _) (fun _ _ _ h => h)
    have hG := hG.kept (Chg.drew (fun _ => False) _) (fun h => h)
    have hsz := Nat.le_trans hsz (Chg.drew (fun _ => False) _).size
    replace hgd : (false = true ∨ (false = false ∧ v3 ≠ 1) ∨ (false = false ∧ bs.length < a5 + v5)) := .inr (.inr ⟨rfl, hgd⟩)
    refine EW.next ?_
    refine CW.condT rfl ?_
    refine CW.rseq ?_
    refine WL.op (by decide) (R.move rfl) ?_
    refine WL.op (by decide) (R.nilCheck rfl) ?_
    refine WL.op (by decide) (FA100_2 rfl) ?_
    refine WL.eff rfl (OP.store1 sz4 rfl rfl rfl rfl hR (Nat.le_of_ble_eq_true rfl) rfl ?_)
    intro w10 hcs _ hR
    have hC := hC.trans hcs
    have hS := hS.kept hcs (fun g o h => (hg g o h).1)
    have hG := hG.kept hcs (by omega)
    have hsz := Nat.le_trans hsz hcs.size
    have hB2 := hcs.at hB2 (by omega)
    have hB3 := hcs.at hB3 (by omega)
    refine WL.next ?_
    refine CW.rseq ?_
    refine WL.op (by decide) (R.build (parts := []) (vals := []) rfl (fun w => build57_0 w)) ?_
    refine WL.eff rfl (OP.storeR (r := ⟨[], 0, 0, zero16, [], []⟩) rfl rfl rfl rfl hB2 ?_)
    intro w11 hc11 hs11 hB2
    have hC := hC.then hc11 (fun k hk e => by omega)
    have hR := hc11.at hR (by omega)
    refine WL.next ?_
    refine CW.ret ?_
    refine EW.thenRet ?_
    exact EW.retC (.inl rfl) rfl rfl (cs := Rec.cells ⟨[], 0, 0, zero16, [], []⟩) Tryd.underlying57 rfl sz57 (fun j u hj => cell_at hB2 (by rw [List.getElem?_toArray]; exact hj)) ⟨_, _, true, rfl, rfl, hR, hC, by rw [chain_bad h1 e2 e3 e4 e5 hgd]; rfl, (fun h => by cases h), ⟨by simp, by simp, by simp⟩⟩
  · skip
    obtain ⟨rfl, hgv, hgd⟩ := hgd
    have hin5 := hin9 rfl
    have hv5 := numR_lt2 e5
    refine CW.draw (fun w => RSt w rb A m c a5 false) (by kernel_rfl) ?_
    refine AH.take 0 rfl (by kernel_rfl) (by kernel_rfl) (by kernel_rfl) (fun _ _ _ _ h => h) hR (by decide) (fun w hS => R.move rfl) ?_
    refine AH.take 1 rfl (by kernel_rfl) (by kernel_rfl) (by kernel_rfl) (fun _ _ _ _ h => h) hR (by decide) (fun w hS => R.nilCheck rfl) ?_
    refine AH.take 2 rfl (by kernel_rfl) (by kernel_rfl) (by kernel_rfl) (fun _ _ _ _ h => h) hR (by decide) (fun w hS => FA100_2 rfl) ?_
    refine AH.take 3 rfl (by kernel_rfl) (by kernel_rfl) (by kernel_rfl) (fun _ _ _ _ h => h) hR (by decide) (fun w hS => R.load Tryd.underlying4 rfl rfl (cell_at hS rfl)) ?_
    refine AH.take 4 rfl (by kernel_rfl) (by kernel_rfl) (by kernel_rfl) (fun _ _ _ _ h => h) hR (by decide) (fun w hS => R.move rfl) ?_
    refine AH.takeG 5 rfl (by kernel_rfl) (by kernel_rfl) (by kernel_rfl) (fun _ _ _ _ h => h) hR (by decide) rfl rfl rfl (fun w hS => R.move rfl) ?_
    refine AH.takeG 6 rfl (by kernel_rfl) (by kernel_rfl) (by kernel_rfl) (fun _ _ _ _ h => h) hR (by decide) rfl rfl rfl (fun w hS => R.neq rfl rfl (c := false) (decide_eq_false (by omega))) ?_
    refine AH.take 7 rfl (by kernel_rfl) (by kernel_rfl) (by kernel_rfl) (fun _ _ _ _ h => h) hR (by decide) (fun w hS => R.pickF rfl rfl) ?_
    refine AH.take 8 rfl (by kernel_rfl) (by kernel_rfl) (by kernel_rfl) (fun _ _ _ _ h => h) hR (by decide) (fun w hS => R.move rfl) ?_
    refine AH.takeG 9 rfl (by kernel_rfl) (by kernel_rfl) (by kernel_rfl) (fun _ _ _ _ h => h) hR (by decide) rfl rfl rfl (fun w hS => R.move rfl) ?_
    refine AH.takeG 10 rfl (by kernel_rfl) (by kernel_rfl) (by kernel_rfl) (fun _ _ _ _ h => h) hR (by decide) rfl rfl rfl (fun w hS => R.nilCheck rfl) ?_
    refine AH.takeG 11 rfl (by kernel_rfl) (by kernel_rfl) (by kernel_rfl) (fun _ _ _ _ h => h) hR (by decide) rfl rfl rfl (fun w hS => FA100_1 rfl) ?_
    refine AH.takeG 12 rfl (by kernel_rfl) (by kernel_rfl) (by kernel_rfl) (fun _ _ _ _ h => h) hR (by decide) rfl rfl rfl (fun w hS => R.load Tryd.underlying3 rfl rfl (cell_at hS rfl)) ?_
    refine AH.takeG 13 rfl (by kernel_rfl) (by kernel_rfl) (by kernel_rfl) (fun _ _ _ _ h => h) hR (by decide) rfl rfl rfl (fun w hS => R.move rfl) ?_
    refine AH.takeG 14 rfl (by kernel_rfl) (by kernel_rfl) (by kernel_rfl) (fun _ _ _ _ h => h) hR (by decide) rfl rfl rfl (fun w hS => R.add rfl rfl (by omega)) ?_
    refine AH.takeG 15 rfl (by kernel_rfl) (by kernel_rfl) (by kernel_rfl) (fun _ _ _ _ h => h) hR (by decide) rfl rfl rfl (fun w hS => R.move rfl) ?_
    refine AH.takeG 16 rfl (by kernel_rfl) (by kernel_rfl) (by kernel_rfl) (fun _ _ _ _ h => h) hR (by decide) rfl rfl rfl (fun w hS => R.nilCheck rfl) ?_
    refine AH.takeG 17 rfl (by kernel_rfl) (by kernel_rfl) (by kernel_rfl) (fun _ _ _ _ h => h) hR (by decide) rfl rfl rfl (fun w hS => FA100_0 rfl) ?_
    refine AH.takeG 18 rfl (by kernel_rfl) (by kernel_rfl) (by kernel_rfl) (fun _ _ _ _ h => h) hR (by decide) rfl rfl rfl (fun w hS => R.load Tryd.underlying36 rfl rfl (cell_at hS rfl)) ?_
    refine AH.takeG 19 rfl (by kernel_rfl) (by kernel_rfl) (by kernel_rfl) (fun _ _ _ _ h => h) hR (by decide) rfl rfl rfl (fun w hS => R.lenSlice rfl Tryd.underlying36 rfl) ?_
    refine AH.takeG 20 rfl (by kernel_rfl) (by kernel_rfl) (by kernel_rfl) (fun _ _ _ _ h => h) hR (by decide) rfl rfl rfl (fun w hS => R.gtr rfl rfl (c := false) (decide_eq_false (by omega))) ?_
    refine AH.take 21 rfl (by kernel_rfl) (by kernel_rfl) (by kernel_rfl) (fun _ _ _ _ h => h) hR (by decide) (fun w hS => R.pickF rfl rfl) ?_
    refine AH.done (by kernel_rfl) ?_
    have hC := hC.trans (Chg.drew _ _)
    have hS := hS.kept (Chg.drew (fun _ => False) _) (fun _ _ _ h => h)
    have hG := hG.kept (Chg.drew (fun _ => False) _) (fun h => h)
    have hsz := Nat.le_trans hsz (Chg.drew (fun _ => False) _).size
    have hbody := chain_body h1 e2 e3 e4 e5 hgv hgd
    have ha5 := (chain_ok h1 e2 e3 e4 e5 rfl).2.2.2.1
    obtain ⟨g, o, rfl, hcell⟩ := hS.cells (by omega)
    have hgg := hg g o rfl
    have hcap := hS.cap
    refine EW.next ?_
    refine CW.condF rfl ?_
    refine CW.skip ?_
    refine EW.next ?_
    refine CW.rseq ?_
    refine WL.op (by decide) (R.move rfl) ?_
    refine WL.op (by decide) (R.nilCheck rfl) ?_
    refine WL.op (by decide) (FA100_1 rfl) ?_
    refine WL.op (by decide) (R.load Tryd.underlying3 rfl rfl (cell_at hR rfl)) ?_
    refine WL.op (by decide) (R.move rfl) ?_
    refine WL.op (by decide) (R.add rfl rfl (by omega)) ?_
    refine WL.op (by decide) (R.assign rfl) ?_
    refine WL.next ?_
    refine CW.seq ?_
    refine CW.draw (fun w => RSt w rb (some ⟨g, o, none⟩) m c a5 false) (by kernel_rfl) ?_
    refine AH.take 0 rfl (by kernel_rfl) (by kernel_rfl) (by kernel_rfl) (fun _ _ _ _ h => h) hR (by decide) (fun w hS => R.move rfl) ?_
    refine AH.take 1 rfl (by kernel_rfl) (by kernel_rfl) (by kernel_rfl) (fun _ _ _ _ h => h) hR (by decide) (fun w hS => R.nilCheck rfl) ?_
    refine AH.take 2 rfl (by kernel_rfl) (by kernel_rfl) (by kernel_rfl) (fun _ _ _ _ h => h) hR (by decide) (fun w hS => FA100_0 rfl) ?_
    refine AH.take 3 rfl (by kernel_rfl) (by kernel_rfl) (by kernel_rfl) (fun _ _ _ _ h => h) hR (by decide) (fun w hS => R.load Tryd.underlying36 rfl rfl (cell_at hS rfl)) ?_
    refine AH.take 4 rfl (by kernel_rfl) (by kernel_rfl) (by kernel_rfl) (fun _ _ _ _ h => h) hR (by decide) (fun w hS => R.move rfl) ?_
    refine AH.take 5 rfl (by kernel_rfl) (by kernel_rfl) (by kernel_rfl) (fun _ _ _ _ h => h) hR (by decide) (fun w hS => R.nilCheck rfl) ?_
    refine AH.take 6 rfl (by kernel_rfl) (by kernel_rfl) (by kernel_rfl) (fun _ _ _ _ h => h) hR (by decide) (fun w hS => FA100_1 rfl) ?_
    refine AH.take 7 rfl (by kernel_rfl) (by kernel_rfl) (by kernel_rfl) (fun _ _ _ _ h => h) hR (by decide) (fun w hS => R.load Tryd.underlying3 rfl rfl (cell_at hS rfl)) ?_
    refine AH.take 8 rfl (by kernel_rfl) (by kernel_rfl) (by kernel_rfl) (fun _ _ _ _ h => h) hR (by decide) (fun w hS => R.move rfl) ?_
    refine AH.take 9 rfl (by kernel_rfl) (by kernel_rfl) (by kernel_rfl) (fun _ _ _ _ h => h) hR (by decide) (fun w hS => R.sliceSl Tryd.underlying36 sz5 rfl rfl rfl rfl (hi := a5 + v5) (by omega) (Nat.le_add_right _ _) (by omega)) ?_
    refine AH.take 10 rfl (by kernel_rfl) (by kernel_rfl) (by kernel_rfl) (fun _ _ _ _ h => h) hR (by decide) (fun w hS => R.assign rfl) ?_
    refine AH.done (by kernel_rfl) ?_
    obtain ⟨dat, hdat0⟩ : ∃ dat, dat = (bs.drop a5).take v5 := ⟨_, rfl⟩
    have hdl : dat.length = v5 := by rw [hdat0, List.length_take, List.length_drop]; omega
    obtain ⟨g2, o2, hPe, hg2, hdat⟩ := data_at (c := c) (v := v5) hcell (by omega) (by omega)
    rw [← hdat0] at hdat
    rw [hPe, Nat.add_sub_cancel_left]
    obtain rfl := hg2
    have hC := hC.trans (Chg.drew _ _)
    have hS := hS.kept (Chg.drew (fun _ => False) _) (fun _ _ _ h => h)
    have hG := hG.kept (Chg.drew (fun _ => False) _) (fun h => h)
    have hsz := Nat.le_trans hsz (Chg.drew (fun _ => False) _).size
    refine EW.next ?_
    refine CW.cut (fun l wr => ∃ (r : Rec) (a' : Nat) (b' : Bool), l = [(0, .pointer (some ⟨rb, 0, none⟩)), (2, .pointer (some ⟨w.heap.size, 0, none⟩)), (3, .pointer (some ⟨w3.heap.size, 0, none⟩)), (6, .int .i64 ((a5 : Int) + (v5 : Int)))] ∧ r.addr.length = 16 ∧ r.small ∧ RSt wr rb (some ⟨g, o, none⟩) m c a' b' ∧ Chg (fun k => k = rb) w wr ∧ Glob wr ∧ w4.heap.size ≤ wr.heap.size ∧ wr.heap[w.heap.size]? = some (.cells (Rec.cells ⟨[], 0, 0, zero16, [], []⟩).toArray 57 (0, 0)) ∧ wr.heap[w3.heap.size]? = some (.cells r.cells.toArray 57 (0, 0)) ∧ BodyRes (recBody bs s v2 (ttlOf v4) a5 v5) r b') ?_ ?_
    ·
      refine CW.block ?_
      refine CW.rseq ?_
      refine WL.op (by decide) (FA57_1 rfl) ?_
      refine WL.op (by decide) (R.load (v := .int .i64 (v2 : Int)) Tryd.underlying3 rfl rfl (cell_at hB3 (Rec.at1 _))) ?_
      refine WL.eqlS (by decide) rfl rfl (fun h1 => ?_) (fun h1 => ?_)
      · skip
        refine WL.op (by decide) (R.move rfl) ?_
        refine WL.gop (by decide) rfl rfl rfl (R.move rfl) ?_
        refine WL.gsplit _ (by decide) rfl rfl rfl (R.eqlD rfl rfl) (fun h2 => ?_) (fun h2 => ?_)
        · skip
          refine WL.op (by decide) (R.pickT rfl rfl) ?_
          refine WL.op (by decide) (R.assign rfl) ?_
          refine WL.next ?_
          refine CW.condT rfl ?_
          refine CW.rseq ?_
          refine WL.op (by decide) (R.loadAgg1 (cs := mappedL.map u8v) Tryd.underlying108 rfl sz108 rfl (fun j u hj => by rw [Nat.zero_add]; exact hG j u hj)) ?_
          refine WL.eff rfl (OP.alloc1 (.agg ((List.replicate 12 (0 : UInt8)).map u8v).toArray) (by decide) (by kernel_rfl) ?_)
          intro w12 hc12 hs12 hB8
          have hC := hC.trans (hc12.mono (fun _ _ h => h.elim))
          have hS := hS.kept hc12 (fun _ _ _ h => h)
          have hG := hG.kept hc12 (fun h => h)
          have hR := hc12.at hR (fun h => h)
          have hB2 := hc12.at hB2 (fun h => h)
          have hB3 := hc12.at hB3 (fun h => h)
          have hdat : ∀ (j : Nat) (b : UInt8), dat[j]? = some b → w12.cell? ⟨g, o2 + j, none⟩ = some (u8v b) := fun j b hj => cell_chg hc12 (hdat j b hj) (fun h => h)
          have hsz12 := hsz
          have hsz := Nat.le_trans hsz hc12.size
          refine WL.eff rfl (OP.storeAgg (cells := (mappedL.map u8v).toArray) inf108.choose_spec.1 (by rw [inf108.choose_spec.2]; rfl) rfl rfl (u8v_all _) hB8 rfl ?_)
          intro w13 hc13 hs13 hB8
          have hC := hC.then hc13 (fun k hk e => by omega)
          have hS := hS.kept hc13 (fun g o h e => by have := hg g o h; omega)
          have hG := hG.kept hc13 (by omega)
          have hR := hc13.at hR (by omega)
          have hB2 := hc13.at hB2 (by omega)
          have hB3 := hc13.at hB3 (by omega)
          have hdat : ∀ (j : Nat) (b : UInt8), dat[j]? = some b → w13.cell? ⟨g, o2 + j, none⟩ = some (u8v b) := fun j b hj => cell_chg hc13 (hdat j b hj) (by omega)
          have hsz := Nat.le_trans hsz hc13.size
          refine WL.next ?_
          refine CW.draw (fun _ => True) (by kernel_rfl) ?_
          have hC := hC.trans (Chg.drew _ _)
          have hS := hS.kept (Chg.drew (fun _ => False) _) (fun _ _ _ h => h)
          have hG := hG.kept (Chg.drew (fun _ => False) _) (fun h => h)
          have hsz := Nat.le_trans hsz (Chg.drew (fun _ => False) _).size
          refine AH.take 0 rfl (by kernel_rfl) (by kernel_rfl) (by kernel_rfl) (fun _ _ _ _ h => h) trivial (by decide) (fun w hS => FA57_3 rfl) ?_
          refine AH.take 1 rfl (by kernel_rfl) (by kernel_rfl) (by kernel_rfl) (fun _ _ _ _ h => h) trivial (by decide) (fun w hS => R.sliceArr (lv := none) (hv := none) (l1 := 0) (h1 := 16) Tryd.underlying27 sz5 rfl rfl rfl (by kernel_rfl) (by decide)) ?_
          refine AH.take 2 rfl (by kernel_rfl) (by kernel_rfl) (by kernel_rfl) (fun _ _ _ _ h => h) trivial (by decide) (fun w hS => R.sliceArrM (h1 := 12) (c1 := 12) Tryd.underlying108 sz5 rfl rfl rfl (by kernel_rfl) (by decide)) ?_
          refine AH.take 3 rfl (by kernel_rfl) (by kernel_rfl) (by kernel_rfl) (fun _ _ _ _ h => h) trivial (by decide) (fun w hS => R.move rfl) ?_
          refine AH.eff 4 (by kernel_rfl) rfl rfl (OP.appendFull (olds := mappedL) (news := dat) (by decide) rfl rfl (fun j u hj => cell_at hB8 (by rw [List.getElem?_toArray, Nat.zero_add]; exact hj)) hdl (by omega) (cells_at hdat) (by rw [hdl]; simp [mappedL]; omega) ?_)
          intro v6 w14 hBf hc14
          refine ⟨trivial, ?_⟩
          have hl16 : (mappedL ++ dat).length = 16 := by rw [List.length_append, hdl]; simp [mappedL]; omega
          obtain ⟨g3, cap3, rfl, _, _, _, hcell3⟩ := hBf.open (by intro h; rw [h] at hl16; cases hl16)
          have hC := hC.trans (hc14.mono (fun _ _ h => h.elim))
          have hG := hG.kept hc14 (fun h => h)
          have hR := hc14.at hR (fun h => h)
          have hB2 := hc14.at hB2 (fun h => h)
          have hB3 := hc14.at hB3 (fun h => h)
          have hsz := Nat.le_trans hsz hc14.size
          refine AH.eff 5 (by kernel_rfl) rfl rfl (OP.copy (cs := mappedL ++ dat) (by decide) rfl rfl hB3 (by rw [hl16]; rfl) (cells_at0 hcell3) (by rw [List.size_toArray, Rec.length rfl, hl16]; decide) ?_)
          intro w15 hcp _ hB3n
          have hB3 := hB3n
          rw [show (mappedL ++ dat).length = 16 from hl16] at hB3
          rw [show (0 + 3 + 0 : Nat) = 3 from rfl, Rec.setAddr rfl (hl16)] at hB3
          have hC := hC.then hcp (fun k hk e => by omega)
          have hG := hG.kept hcp (by omega)
          have hR := hcp.at hR (by omega)
          have hB2 := hcp.at hB2 (by omega)
          have hsz := Nat.le_trans hsz hcp.size
          refine ⟨trivial, ?_⟩
          refine AH.done (by kernel_rfl) ?_
          refine EW.inNormal ?_
          exact EW.cutK [0, 2, 3, 6] ⟨_, a5, false, rfl, by show (mappedL ++ dat).length = 16; rw [List.length_append, hdl]; simp [mappedL]; omega, ⟨hsl, by simp, by simp⟩, hR, hC, hG, hsz, hB2, hB3, by rw [body_a (bs := bs) (nm := s) (ty := v2) (a := a5) (n := v5) (ttl := ttlOf v4) (by omega) (by omega)]; exact ⟨by rw [hdat0]; rfl, rfl⟩⟩
        · skip
          refine WL.op (by decide) (R.pickT rfl rfl) ?_
          refine WL.op (by decide) (R.assign rfl) ?_
          refine WL.next ?_
          refine CW.condF rfl ?_
          refine CW.rseq ?_
          refine WL.op (by decide) (FA57_1 rfl) ?_
          refine WL.op (by decide) (R.load (v := .int .i64 (v2 : Int)) Tryd.underlying3 rfl rfl (cell_at hB3 (Rec.at1 _))) ?_
          refine WL.eqlS (by decide) rfl rfl (fun h3 => ?_) (fun h3 => ?_)
          · skip
            refine WL.op (by decide) (R.move rfl) ?_
            refine WL.gop (by decide) rfl rfl rfl (R.move rfl) ?_
            refine WL.gsplit _ (by decide) rfl rfl rfl (R.eqlD rfl rfl) (fun h4 => ?_) (fun h4 => ?_)
            · skip
              refine WL.op (by decide) (R.pickT rfl rfl) ?_
              refine WL.op (by decide) (R.assign rfl) ?_
              refine WL.next ?_
              refine CW.condT rfl ?_
              refine CW.region ?_
              refine WL.op (by decide) (FA57_3 rfl) ?_
              refine WL.op (by decide) (R.sliceArr (lv := none) (hv := none) (l1 := 0) (h1 := 16) Tryd.underlying27 sz5 rfl rfl rfl (by kernel_rfl) (by decide)) ?_
              refine WL.op (by decide) (R.move rfl) ?_
              refine WL.eff rfl (OP.copy (cs := dat) (by decide) rfl rfl hB3 (by rw [(show dat.length = 16 by omega)]; exact (Nat.min_eq_left (by omega) |>.trans (by omega)).symm) (cells_at hdat) (by rw [List.size_toArray, Rec.length rfl, (show dat.length = 16 by omega)]; decide) ?_)
              intro w14 hcp _ hB3n
              have hB3 := hB3n
              rw [show (dat).length = 16 from (show dat.length = 16 by omega)] at hB3
              rw [show (0 + 3 + 0 : Nat) = 3 from rfl, Rec.setAddr rfl ((show dat.length = 16 by omega))] at hB3
              have hC := hC.then hcp (fun k hk e => by omega)
              have hG := hG.kept hcp (by omega)
              have hR := hcp.at hR (by omega)
              have hB2 := hcp.at hB2 (by omega)
              have hsz := Nat.le_trans hsz hcp.size
              refine WL.nil ?_
              refine EW.inNormal ?_
              exact EW.cutK [0, 2, 3, 6] ⟨_, a5, false, rfl, by show dat.length = 16; omega, ⟨hsl, by simp, by simp⟩, hR, hC, hG, hsz, hB2, hB3, by rw [body_aaaa (bs := bs) (nm := s) (ty := v2) (a := a5) (n := v5) (ttl := ttlOf v4) (by omega) (by omega)]; exact ⟨by rw [hdat0]; rfl, rfl⟩⟩
            · skip
              refine WL.op (by decide) (R.pickT rfl rfl) ?_
              refine WL.op (by decide) (R.assign rfl) ?_
              refine WL.next ?_
              refine CW.condF rfl ?_
              refine CW.rseq ?_
              refine WL.op (by decide) (FA57_1 rfl) ?_
              refine WL.op (by decide) (R.load (v := .int .i64 (v2 : Int)) Tryd.underlying3 rfl rfl (cell_at hB3 (Rec.at1 _))) ?_
              refine WL.eqlS (by decide) rfl rfl (fun h5 => ?_) (fun h5 => ?_)
              · skip
                refine WL.op (by decide) (R.move rfl) ?_
                refine WL.pass (by decide) rfl rfl rfl ?_
                refine WL.pass (by decide) rfl rfl rfl ?_
                refine WL.pass (by decide) rfl rfl rfl ?_
                refine WL.op (by decide) (R.pickT rfl rfl) ?_
                refine WL.op (by decide) (R.move rfl) ?_
                refine WL.pass (by decide) rfl rfl rfl ?_
                refine WL.pass (by decide) rfl rfl rfl ?_
                refine WL.pass (by decide) rfl rfl rfl ?_
                refine WL.op (by decide) (R.pickT rfl rfl) ?_
                refine WL.op (by decide) (R.assign rfl) ?_
                refine WL.next ?_
                refine CW.condT rfl ?_
                refine CW.rseq ?_
                refine WL.op (by decide) (R.move rfl) ?_
                refine WL.eff rfl (OP.call (by decide) Tryd.func46 (by kernel_rfl) (by kernel_rfl) rfl (rname_st rb _ m c bs a5 false _ hR hS (fun g o h => (hg g o h).1) hin9 hm) ?_)
                rintro ed w14 ⟨s2, a6, b6, rfl, hR, hc14, hn2, hs2l⟩
                refine ⟨_, rfl, ?_⟩
                have hC := hC.trans hc14
                have hS := hS.kept hc14 (fun g o h => (hg g o h).1)
                have hG := hG.kept hc14 (by omega)
                have hsz := Nat.le_trans hsz hc14.size
                have hB2 := hc14.at hB2 (by omega)
                have hB3 := hc14.at hB3 (by omega)
                refine WL.op (by decide) (FA57_4 rfl) ?_
                refine WL.eff rfl (OP.store1 sz9 rfl rfl rfl rfl hB3 (by rw [List.size_toArray, Rec.length rfl]; decide) rfl ?_)
                intro w15 hc15 hs15 hB3n
                have hB3 := hB3n
                rw [show (0 + 19 : Nat) = 19 from rfl, Rec.set19 rfl] at hB3
                have hC := hC.then hc15 (fun k hk e => by omega)
                have hG := hG.kept hc15 (by omega)
                have hS := hS.kept hc15 (fun g o h e => by have := hg g o h; omega)
                have hR := hc15.at hR (by omega)
                have hB2 := hc15.at hB2 (by omega)
                have hsz := Nat.le_trans hsz hc15.size
                refine WL.next ?_
                refine CW.rseq ?_
                refine WL.op (by decide) (R.move rfl) ?_
                refine WL.op (by decide) (R.nilCheck rfl) ?_
                refine WL.op (by decide) (FA100_1 rfl) ?_
                refine WL.op (by decide) (R.load Tryd.underlying3 rfl rfl (cell_at hR rfl)) ?_
                refine WL.op (by decide) (R.move rfl) ?_
                refine WL.neqS (by decide) rfl rfl (fun h6 => ?_) (fun h6 => ?_)
                · skip
                  refine WL.next ?_
                  refine CW.condT rfl ?_
                  refine CW.region ?_
                  refine WL.op (by decide) (R.move rfl) ?_
                  refine WL.op (by decide) (R.nilCheck rfl) ?_
                  refine WL.op (by decide) (FA100_2 rfl) ?_
                  refine WL.eff rfl (OP.store1 sz4 rfl rfl rfl rfl hR (Nat.le_of_ble_eq_true rfl) rfl ?_)
                  intro w16 hcs _ hR
                  have hC := hC.trans hcs
                  have hS := hS.kept hcs (fun g o h => (hg g o h).1)
                  have hG := hG.kept hcs (by omega)
                  have hsz := Nat.le_trans hsz hcs.size
                  have hB2 := hcs.at hB2 (by omega)
                  have hB3 := hcs.at hB3 (by omega)
                  refine WL.nil ?_
                  refine EW.inNormal ?_
                  exact EW.cutK [0, 2, 3, 6] ⟨_, a6, true, rfl, rfl, ⟨hsl, Nat.le_trans hs2l (by decide), by simp⟩, hR, hC, hG, hsz, hB2, hB3, by rw [body_far (bs := bs) (nm := s) (ty := v2) (a := a5) (n := v5) (ttl := ttlOf v4) (by omega) hn2 (by omega)]; rfl⟩
                · skip
                  refine WL.next ?_
                  refine CW.condF rfl ?_
                  refine CW.skip ?_
                  refine EW.inNormal ?_
                  exact EW.cutK [0, 2, 3, 6] ⟨_, a6, _, rfl, rfl, ⟨hsl, Nat.le_trans hs2l (by decide), by simp⟩, hR, hC, hG, hsz, hB2, hB3, body_near (bs := bs) (nm := s) (ty := v2) (a := a5) (n := v5) (ttl := ttlOf v4) (by omega) hn2 (by omega)⟩
              · skip
                refine WL.op (by decide) (R.move rfl) ?_
                refine WL.gop (by decide) rfl rfl rfl (FA57_1 rfl) ?_
                refine WL.gop (by decide) rfl rfl rfl (R.load (v := .int .i64 (v2 : Int)) Tryd.underlying3 rfl rfl (cell_at hB3 (Rec.at1 _))) ?_
                refine WL.gsplit _ (by decide) rfl rfl rfl (R.eqlD rfl rfl) (fun h7 => ?_) (fun h7 => ?_)
                · skip
                  refine WL.op (by decide) (R.pickF rfl rfl) ?_
                  refine WL.op (by decide) (R.move rfl) ?_
                  refine WL.pass (by decide) rfl rfl rfl ?_
                  refine WL.pass (by decide) rfl rfl rfl ?_
                  refine WL.pass (by decide) rfl rfl rfl ?_
                  refine WL.op (by decide) (R.pickT rfl rfl) ?_
                  refine WL.op (by decide) (R.assign rfl) ?_
                  refine WL.next ?_
                  refine CW.condT rfl ?_
                  refine CW.rseq ?_
                  refine WL.op (by decide) (R.move rfl) ?_
                  refine WL.eff rfl (OP.call (by decide) Tryd.func46 (by kernel_rfl) (by kernel_rfl) rfl (rname_st rb _ m c bs a5 false _ hR hS (fun g o h => (hg g o h).1) hin9 hm) ?_)
                  rintro ed w14 ⟨s2, a6, b6, rfl, hR, hc14, hn2, hs2l⟩
                  refine ⟨_, rfl, ?_⟩
                  have hC := hC.trans hc14
                  have hS := hS.kept hc14 (fun g o h => (hg g o h).1)
                  have hG := hG.kept hc14 (by omega)
                  have hsz := Nat.le_trans hsz hc14.size
                  have hB2 := hc14.at hB2 (by omega)
                  have hB3 := hc14.at hB3 (by omega)
                  refine WL.op (by decide) (FA57_4 rfl) ?_
                  refine WL.eff rfl (OP.store1 sz9 rfl rfl rfl rfl hB3 (by rw [List.size_toArray, Rec.length rfl]; decide) rfl ?_)
                  intro w15 hc15 hs15 hB3n
                  have hB3 := hB3n
                  rw [show (0 + 19 : Nat) = 19 from rfl, Rec.set19 rfl] at hB3
                  have hC := hC.then hc15 (fun k hk e => by omega)
                  have hG := hG.kept hc15 (by omega)
                  have hS := hS.kept hc15 (fun g o h e => by have := hg g o h; omega)
                  have hR := hc15.at hR (by omega)
                  have hB2 := hc15.at hB2 (by omega)
                  have hsz := Nat.le_trans hsz hc15.size
                  refine WL.next ?_
                  refine CW.rseq ?_
                  refine WL.op (by decide) (R.move rfl) ?_
                  refine WL.op (by decide) (R.nilCheck rfl) ?_
                  refine WL.op (by decide) (FA100_1 rfl) ?_
                  refine WL.op (by decide) (R.load Tryd.underlying3 rfl rfl (cell_at hR rfl)) ?_
                  refine WL.op (by decide) (R.move rfl) ?_
                  refine WL.neqS (by decide) rfl rfl (fun h8 => ?_) (fun h8 => ?_)
                  · skip
                    refine WL.next ?_
                    refine CW.condT rfl ?_
                    refine CW.region ?_
                    refine WL.op (by decide) (R.move rfl) ?_
                    refine WL.op (by decide) (R.nilCheck rfl) ?_
                    refine WL.op (by decide) (FA100_2 rfl) ?_
                    refine WL.eff rfl (OP.store1 sz4 rfl rfl rfl rfl hR (Nat.le_of_ble_eq_true rfl) rfl ?_)
                    intro w16 hcs _ hR
                    have hC := hC.trans hcs
                    have hS := hS.kept hcs (fun g o h => (hg g o h).1)
                    have hG := hG.kept hcs (by omega)
                    have hsz := Nat.le_trans hsz hcs.size
                    have hB2 := hcs.at hB2 (by omega)
                    have hB3 := hcs.at hB3 (by omega)
                    refine WL.nil ?_
                    refine EW.inNormal ?_
                    exact EW.cutK [0, 2, 3, 6] ⟨_, a6, true, rfl, rfl, ⟨hsl, Nat.le_trans hs2l (by decide), by simp⟩, hR, hC, hG, hsz, hB2, hB3, by rw [body_far (bs := bs) (nm := s) (ty := v2) (a := a5) (n := v5) (ttl := ttlOf v4) (by omega) hn2 (by omega)]; rfl⟩
                  · skip
                    refine WL.next ?_
                    refine CW.condF rfl ?_
                    refine CW.skip ?_
                    refine EW.inNormal ?_
                    exact EW.cutK [0, 2, 3, 6] ⟨_, a6, _, rfl, rfl, ⟨hsl, Nat.le_trans hs2l (by decide), by simp⟩, hR, hC, hG, hsz, hB2, hB3, body_near (bs := bs) (nm := s) (ty := v2) (a := a5) (n := v5) (ttl := ttlOf v4) (by omega) hn2 (by omega)⟩
                · skip
                  refine WL.op (by decide) (R.pickF rfl rfl) ?_
                  refine WL.op (by decide) (R.move rfl) ?_
                  refine WL.gop (by decide) rfl rfl rfl (FA57_1 rfl) ?_
                  refine WL.gop (by decide) rfl rfl rfl (R.load (v := .int .i64 (v2 : Int)) Tryd.underlying3 rfl rfl (cell_at hB3 (Rec.at1 _))) ?_
                  refine WL.gsplit _ (by decide) rfl rfl rfl (R.eqlD rfl rfl) (fun h9 => ?_) (fun h9 => ?_)
                  · skip
                    refine WL.op (by decide) (R.pickF rfl rfl) ?_
                    refine WL.op (by decide) (R.assign rfl) ?_
                    refine WL.next ?_
                    refine CW.condT rfl ?_
                    refine CW.rseq ?_
                    refine WL.op (by decide) (R.move rfl) ?_
                    refine WL.eff rfl (OP.call (by decide) Tryd.func46 (by kernel_rfl) (by kernel_rfl) rfl (rname_st rb _ m c bs a5 false _ hR hS (fun g o h => (hg g o h).1) hin9 hm) ?_)
                    rintro ed w14 ⟨s2, a6, b6, rfl, hR, hc14, hn2, hs2l⟩
                    refine ⟨_, rfl, ?_⟩
                    have hC := hC.trans hc14
                    have hS := hS.kept hc14 (fun g o h => (hg g o h).1)
                    have hG := hG.kept hc14 (by omega)
                    have hsz := Nat.le_trans hsz hc14.size
                    have hB2 := hc14.at hB2 (by omega)
                    have hB3 := hc14.at hB3 (by omega)
                    refine WL.op (by decide) (FA57_4 rfl) ?_
                    refine WL.eff rfl (OP.store1 sz9 rfl rfl rfl rfl hB3 (by rw [List.size_toArray, Rec.length rfl]; decide) rfl ?_)
                    intro w15 hc15 hs15 hB3n
                    have hB3 := hB3n
                    rw [show (0 + 19 : Nat) = 19 from rfl, Rec.set19 rfl] at hB3
                    have hC := hC.then hc15 (fun k hk e => by omega)
                    have hG := hG.kept hc15 (by omega)
                    have hS := hS.kept hc15 (fun g o h e => by have := hg g o h; omega)
                    have hR := hc15.at hR (by omega)
                    have hB2 := hc15.at hB2 (by omega)
                    have hsz := Nat.le_trans hsz hc15.size
                    refine WL.next ?_
                    refine CW.rseq ?_
                    refine WL.op (by decide) (R.move rfl) ?_
                    refine WL.op (by decide) (R.nilCheck rfl) ?_
                    refine WL.op (by decide) (FA100_1 rfl) ?_
                    refine WL.op (by decide) (R.load Tryd.underlying3 rfl rfl (cell_at hR rfl)) ?_
                    refine WL.op (by decide) (R.move rfl) ?_
                    refine WL.neqS (by decide) rfl rfl (fun h10 => ?_) (fun h10 => ?_)
                    · skip
                      refine WL.next ?_
                      refine CW.condT rfl ?_
                      refine CW.region ?_
                      refine WL.op (by decide) (R.move rfl) ?_
                      refine WL.op (by decide) (R.nilCheck rfl) ?_
                      refine WL.op (by decide) (FA100_2 rfl) ?_
                      refine WL.eff rfl (OP.store1 sz4 rfl rfl rfl rfl hR (Nat.le_of_ble_eq_true rfl) rfl ?_)
                      intro w16 hcs _ hR
                      have hC := hC.trans hcs
                      have hS := hS.kept hcs (fun g o h => (hg g o h).1)
                      have hG := hG.kept hcs (by omega)
                      have hsz := Nat.le_trans hsz hcs.size
                      have hB2 := hcs.at hB2 (by omega)
                      have hB3 := hcs.at hB3 (by omega)
                      refine WL.nil ?_
                      refine EW.inNormal ?_
                      exact EW.cutK [0, 2, 3, 6] ⟨_, a6, true, rfl, rfl, ⟨hsl, Nat.le_trans hs2l (by decide), by simp⟩, hR, hC, hG, hsz, hB2, hB3, by rw [body_far (bs := bs) (nm := s) (ty := v2) (a := a5) (n := v5) (ttl := ttlOf v4) (by omega) hn2 (by omega)]; rfl⟩
                    · skip
                      refine WL.next ?_
                      refine CW.condF rfl ?_
                      refine CW.skip ?_
                      refine EW.inNormal ?_
                      exact EW.cutK [0, 2, 3, 6] ⟨_, a6, _, rfl, rfl, ⟨hsl, Nat.le_trans hs2l (by decide), by simp⟩, hR, hC, hG, hsz, hB2, hB3, body_near (bs := bs) (nm := s) (ty := v2) (a := a5) (n := v5) (ttl := ttlOf v4) (by omega) hn2 (by omega)⟩
                  · skip
                    refine WL.op (by decide) (R.pickF rfl rfl) ?_
                    refine WL.op (by decide) (R.assign rfl) ?_
                    refine WL.next ?_
                    refine CW.condF rfl ?_
                    refine CW.region ?_
                    refine WL.op (by decide) (R.move rfl) ?_
                    refine WL.op (by decide) (R.strOf (s := dat) rfl hdl hdat) ?_
                    refine WL.op (by decide) (FA57_5 rfl) ?_
                    refine WL.eff rfl (OP.store1 sz9 rfl rfl rfl rfl hB3 (by rw [List.size_toArray, Rec.length rfl]; decide) rfl ?_)
                    intro w15 hc15 hs15 hB3n
                    have hB3 := hB3n
                    rw [show (0 + 20 : Nat) = 20 from rfl, Rec.set20 rfl] at hB3
                    have hC := hC.then hc15 (fun k hk e => by omega)
                    have hG := hG.kept hc15 (by omega)
                    have hR := hc15.at hR (by omega)
                    have hB2 := hc15.at hB2 (by omega)
                    have hsz := Nat.le_trans hsz hc15.size
                    refine WL.nil ?_
                    refine EW.inNormal ?_
                    exact EW.cutK [0, 2, 3, 6] ⟨_, a5, false, rfl, rfl, ⟨hsl, by simp, by show dat.length ≤ _; omega⟩, hR, hC, hG, hsz, hB2, hB3, by rw [body_other (bs := bs) (nm := s) (ty := v2) (a := a5) (n := v5) (ttl := ttlOf v4) (by omega) (by omega) (by omega)]; exact ⟨by rw [hdat0]; rfl, rfl⟩⟩
          · skip
            refine WL.op (by decide) (R.move rfl) ?_
            refine WL.pass (by decide) rfl rfl rfl ?_
            refine WL.pass (by decide) rfl rfl rfl ?_
            refine WL.op (by decide) (R.pickF rfl rfl) ?_
            refine WL.op (by decide) (R.assign rfl) ?_
            refine WL.next ?_
            refine CW.condF rfl ?_
            refine CW.rseq ?_
            refine WL.op (by decide) (FA57_1 rfl) ?_
            refine WL.op (by decide) (R.load (v := .int .i64 (v2 : Int)) Tryd.underlying3 rfl rfl (cell_at hB3 (Rec.at1 _))) ?_
            refine WL.eqlS (by decide) rfl rfl (fun h11 => ?_) (fun h11 => ?_)
            · skip
              refine WL.op (by decide) (R.move rfl) ?_
              refine WL.pass (by decide) rfl rfl rfl ?_
              refine WL.pass (by decide) rfl rfl rfl ?_
              refine WL.pass (by decide) rfl rfl rfl ?_
              refine WL.op (by decide) (R.pickT rfl rfl) ?_
              refine WL.op (by decide) (R.move rfl) ?_
              refine WL.pass (by decide) rfl rfl rfl ?_
              refine WL.pass (by decide) rfl rfl rfl ?_
              refine WL.pass (by decide) rfl rfl rfl ?_
              refine WL.op (by decide) (R.pickT rfl rfl) ?_
              refine WL.op (by decide) (R.assign rfl) ?_
              refine WL.next ?_
              refine CW.condT rfl ?_
              refine CW.rseq ?_
              refine WL.op (by decide) (R.move rfl) ?_
              refine WL.eff rfl (OP.call (by decide) Tryd.func46 (by kernel_rfl) (by kernel_rfl) rfl (rname_st rb _ m c bs a5 false _ hR hS (fun g o h => (hg g o h).1) hin9 hm) ?_)
              rintro ed w14 ⟨s2, a6, b6, rfl, hR, hc14, hn2, hs2l⟩
              refine ⟨_, rfl, ?_⟩
              have hC := hC.trans hc14
              have hS := hS.kept hc14 (fun g o h => (hg g o h).1)
              have hG := hG.kept hc14 (by omega)
              have hsz := Nat.le_trans hsz hc14.size
              have hB2 := hc14.at hB2 (by omega)
              have hB3 := hc14.at hB3 (by omega)
              refine WL.op (by decide) (FA57_4 rfl) ?_
              refine WL.eff rfl (OP.store1 sz9 rfl rfl rfl rfl hB3 (by rw [List.size_toArray, Rec.length rfl]; decide) rfl ?_)
              intro w15 hc15 hs15 hB3n
              have hB3 := hB3n
              rw [show (0 + 19 : Nat) = 19 from rfl, Rec.set19 rfl] at hB3
              have hC := hC.then hc15 (fun k hk e => by omega)
              have hG := hG.kept hc15 (by omega)
              have hS := hS.kept hc15 (fun g o h e => by have := hg g o h; omega)
              have hR := hc15.at hR (by omega)
              have hB2 := hc15.at hB2 (by omega)
              have hsz := Nat.le_trans hsz hc15.size
              refine WL.next ?_
              refine CW.rseq ?_
              refine WL.op (by decide) (R.move rfl) ?_
              refine WL.op (by decide) (R.nilCheck rfl) ?_
              refine WL.op (by decide) (FA100_1 rfl) ?_
              refine WL.op (by decide) (R.load Tryd.underlying3 rfl rfl (cell_at hR rfl)) ?_
              refine WL.op (by decide) (R.move rfl) ?_
              refine WL.neqS (by decide) rfl rfl (fun h12 => ?_) (fun h12 => ?_)
              · skip
                refine WL.next ?_
                refine CW.condT rfl ?_
                refine CW.region ?_
                refine WL.op (by decide) (R.move rfl) ?_
                refine WL.op (by decide) (R.nilCheck rfl) ?_
                refine WL.op (by decide) (FA100_2 rfl) ?_
                refine WL.eff rfl (OP.store1 sz4 rfl rfl rfl rfl hR (Nat.le_of_ble_eq_true rfl) rfl ?_)
                intro w16 hcs _ hR
                have hC := hC.trans hcs
                have hS := hS.kept hcs (fun g o h => (hg g o h).1)
                have hG := hG.kept hcs (by omega)
                have hsz := Nat.le_trans hsz hcs.size
                have hB2 := hcs.at hB2 (by omega)
                have hB3 := hcs.at hB3 (by omega)
                refine WL.nil ?_
                refine EW.inNormal ?_
                exact EW.cutK [0, 2, 3, 6] ⟨_, a6, true, rfl, rfl, ⟨hsl, Nat.le_trans hs2l (by decide), by simp⟩, hR, hC, hG, hsz, hB2, hB3, by rw [body_far (bs := bs) (nm := s) (ty := v2) (a := a5) (n := v5) (ttl := ttlOf v4) (by omega) hn2 (by omega)]; rfl⟩
              · skip
                refine WL.next ?_
                refine CW.condF rfl ?_
                refine CW.skip ?_
                refine EW.inNormal ?_
                exact EW.cutK [0, 2, 3, 6] ⟨_, a6, _, rfl, rfl, ⟨hsl, Nat.le_trans hs2l (by decide), by simp⟩, hR, hC, hG, hsz, hB2, hB3, body_near (bs := bs) (nm := s) (ty := v2) (a := a5) (n := v5) (ttl := ttlOf v4) (by omega) hn2 (by omega)⟩
            · skip
              refine WL.op (by decide) (R.move rfl) ?_
              refine WL.gop (by decide) rfl rfl rfl (FA57_1 rfl) ?_
              refine WL.gop (by decide) rfl rfl rfl (R.load (v := .int .i64 (v2 : Int)) Tryd.underlying3 rfl rfl (cell_at hB3 (Rec.at1 _))) ?_
              refine WL.gsplit _ (by decide) rfl rfl rfl (R.eqlD rfl rfl) (fun h13 => ?_) (fun h13 => ?_)
              · skip
                refine WL.op (by decide) (R.pickF rfl rfl) ?_
                refine WL.op (by decide) (R.move rfl) ?_
                refine WL.pass (by decide) rfl rfl rfl ?_
                refine WL.pass (by decide) rfl rfl rfl ?_
                refine WL.pass (by decide) rfl rfl rfl ?_
                refine WL.op (by decide) (R.pickT rfl rfl) ?_
                refine WL.op (by decide) (R.assign rfl) ?_
                refine WL.next ?_
                refine CW.condT rfl ?_
                refine CW.rseq ?_
                refine WL.op (by decide) (R.move rfl) ?_
                refine WL.eff rfl (OP.call (by decide) Tryd.func46 (by kernel_rfl) (by kernel_rfl) rfl (rname_st rb _ m c bs a5 false _ hR hS (fun g o h => (hg g o h).1) hin9 hm) ?_)
                rintro ed w14 ⟨s2, a6, b6, rfl, hR, hc14, hn2, hs2l⟩
                refine ⟨_, rfl, ?_⟩
                have hC := hC.trans hc14
                have hS := hS.kept hc14 (fun g o h => (hg g o h).1)
                have hG := hG.kept hc14 (by omega)
                have hsz := Nat.le_trans hsz hc14.size
                have hB2 := hc14.at hB2 (by omega)
                have hB3 := hc14.at hB3 (by omega)
                refine WL.op (by decide) (FA57_4 rfl) ?_
                refine WL.eff rfl (OP.store1 sz9 rfl rfl rfl rfl hB3 (by rw [List.size_toArray, Rec.length rfl]; decide) rfl ?_)
                intro w15 hc15 hs15 hB3n
                have hB3 := hB3n
                rw [show (0 + 19 : Nat) = 19 from rfl, Rec.set19 rfl] at hB3
                have hC := hC.then hc15 (fun k hk e => by omega)
                have hG := hG.kept hc15 (by omega)
                have hS := hS.kept hc15 (fun g o h e => by have := hg g o h; omega)
                have hR := hc15.at hR (by omega)
                have hB2 := hc15.at hB2 (by omega)
                have hsz := Nat.le_trans hsz hc15.size
                refine WL.next ?_
                refine CW.rseq ?_
                refine WL.op (by decide) (R.move rfl) ?_
                refine WL.op (by decide) (R.nilCheck rfl) ?_
                refine WL.op (by decide) (FA100_1 rfl) ?_
                refine WL.op (by decide) (R.load Tryd.underlying3 rfl rfl (cell_at hR rfl)) ?_
                refine WL.op (by decide) (R.move rfl) ?_
                refine WL.neqS (by decide) rfl rfl (fun h14 => ?_) (fun h14 => ?_)
                · skip
                  refine WL.next ?_
                  refine CW.condT rfl ?_
                  refine CW.region ?_
                  refine WL.op (by decide) (R.move rfl) ?_
                  refine WL.op (by decide) (R.nilCheck rfl) ?_
                  refine WL.op (by decide) (FA100_2 rfl) ?_
                  refine WL.eff rfl (OP.store1 sz4 rfl rfl rfl rfl hR (Nat.le_of_ble_eq_true rfl) rfl ?_)
                  intro w16 hcs _ hR
                  have hC := hC.trans hcs
                  have hS := hS.kept hcs (fun g o h => (hg g o h).1)
                  have hG := hG.kept hcs (by omega)
                  have hsz := Nat.le_trans hsz hcs.size
                  have hB2 := hcs.at hB2 (by omega)
                  have hB3 := hcs.at hB3 (by omega)
                  refine WL.nil ?_
                  refine EW.inNormal ?_
                  exact EW.cutK [0, 2, 3, 6] ⟨_, a6, true, rfl, rfl, ⟨hsl, Nat.le_trans hs2l (by decide), by simp⟩, hR, hC, hG, hsz, hB2, hB3, by rw [body_far (bs := bs) (nm := s) (ty := v2) (a := a5) (n := v5) (ttl := ttlOf v4) (by omega) hn2 (by omega)]; rfl⟩
                · skip
                  refine WL.next ?_
                  refine CW.condF rfl ?_
                  refine CW.skip ?_
                  refine EW.inNormal ?_
                  exact EW.cutK [0, 2, 3, 6] ⟨_, a6, _, rfl, rfl, ⟨hsl, Nat.le_trans hs2l (by decide), by simp⟩, hR, hC, hG, hsz, hB2, hB3, body_near (bs := bs) (nm := s) (ty := v2) (a := a5) (n := v5) (ttl := ttlOf v4) (by omega) hn2 (by omega)⟩
              · skip
                refine WL.op (by decide) (R.pickF rfl rfl) ?_
                refine WL.op (by decide) (R.move rfl) ?_
                refine WL.gop (by decide) rfl rfl rfl (FA57_1 rfl) ?_
                refine WL.gop (by decide) rfl rfl rfl (R.load (v := .int .i64 (v2 : Int)) Tryd.underlying3 rfl rfl (cell_at hB3 (Rec.at1 _))) ?_
                refine WL.gsplit _ (by decide) rfl rfl rfl (R.eqlD rfl rfl) (fun h15 => ?_) (fun h15 => ?_)
                · skip
                  refine WL.op (by decide) (R.pickF rfl rfl) ?_
                  refine WL.op (by decide) (R.assign rfl) ?_
                  refine WL.next ?_
                  refine CW.condT rfl ?_
                  refine CW.rseq ?_
                  refine WL.op (by decide) (R.move rfl) ?_
                  refine WL.eff rfl (OP.call (by decide) Tryd.func46 (by kernel_rfl) (by kernel_rfl) rfl (rname_st rb _ m c bs a5 false _ hR hS (fun g o h => (hg g o h).1) hin9 hm) ?_)
                  rintro ed w14 ⟨s2, a6, b6, rfl, hR, hc14, hn2, hs2l⟩
                  refine ⟨_, rfl, ?_⟩
                  have hC := hC.trans hc14
                  have hS := hS.kept hc14 (fun g o h => (hg g o h).1)
                  have hG := hG.kept hc14 (by omega)
                  have hsz := Nat.le_trans hsz hc14.size
                  have hB2 := hc14.at hB2 (by omega)
                  have hB3 := hc14.at hB3 (by omega)
                  refine WL.op (by decide) (FA57_4 rfl) ?_
                  refine WL.eff rfl (OP.store1 sz9 rfl rfl rfl rfl hB3 (by rw [List.size_toArray, Rec.length rfl]; decide) rfl ?_)
                  intro w15 hc15 hs15 hB3n
                  have hB3 := hB3n
                  rw [show (0 + 19 : Nat) = 19 from rfl, Rec.set19 rfl] at hB3
                  have hC := hC.then hc15 (fun k hk e => by omega)
                  have hG := hG.kept hc15 (by omega)
                  have hS := hS.kept hc15 (fun g o h e => by have := hg g o h; omega)
                  have hR := hc15.at hR (by omega)
                  have hB2 := hc15.at hB2 (by omega)
                  have hsz := Nat.le_trans hsz hc15.size
                  refine WL.next ?_
                  refine CW.rseq ?_
                  refine WL.op (by decide) (R.move rfl) ?_
                  refine WL.op (by decide) (R.nilCheck rfl) ?_
                  refine WL.op (by decide) (FA100_1 rfl) ?_
                  refine WL.op (by decide) (R.load Tryd.underlying3 rfl rfl (cell_at hR rfl)) ?_
                  refine WL.op (by decide) (R.move rfl) ?_
                  refine WL.neqS (by decide) rfl rfl (fun h16 => ?_) (fun h16 => ?_)
                  · skip
                    refine WL.next ?_
                    refine CW.condT rfl ?_
                    refine CW.region ?_
                    refine WL.op (by decide) (R.move rfl) ?_
                    refine WL.op (by decide) (R.nilCheck rfl) ?_
                    refine WL.op (by decide) (FA100_2 rfl) ?_
                    refine WL.eff rfl (OP.store1 sz4 rfl rfl rfl rfl hR (Nat.le_of_ble_eq_true rfl) rfl ?_)
                    intro w16 hcs _ hR
                    have hC := hC.trans hcs
                    have hS := hS.kept hcs (fun g o h => (hg g o h).1)
                    have hG := hG.kept hcs (by omega)
                    have hsz := Nat.le_trans hsz hcs.size
                    have hB2 := hcs.at hB2 (by omega)
                    have hB3 := hcs.at hB3 (by omega)
                    refine WL.nil ?_
                    refine EW.inNormal ?_
                    exact EW.cutK [0, 2, 3, 6] ⟨_, a6, true, rfl, rfl, ⟨hsl, Nat.le_trans hs2l (by decide), by simp⟩, hR, hC, hG, hsz, hB2, hB3, by rw [body_far (bs := bs) (nm := s) (ty := v2) (a := a5) (n := v5) (ttl := ttlOf v4) (by omega) hn2 (by omega)]; rfl⟩
                  · skip
                    refine WL.next ?_
                    refine CW.condF rfl ?_
                    refine CW.skip ?_
                    refine EW.inNormal ?_
                    exact EW.cutK [0, 2, 3, 6] ⟨_, a6, _, rfl, rfl, ⟨hsl, Nat.le_trans hs2l (by decide), by simp⟩, hR, hC, hG, hsz, hB2, hB3, body_near (bs := bs) (nm := s) (ty := v2) (a := a5) (n := v5) (ttl := ttlOf v4) (by omega) hn2 (by omega)⟩
                · skip
                  refine WL.op (by decide) (R.pickF rfl rfl) ?_
                  refine WL.op (by decide) (R.assign rfl) ?_
                  refine WL.next ?_
                  refine CW.condF rfl ?_
                  refine CW.region ?_
                  refine WL.op (by decide) (R.move rfl) ?_
                  refine WL.op (by decide) (R.strOf (s := dat) rfl hdl hdat) ?_
                  refine WL.op (by decide) (FA57_5 rfl) ?_
                  refine WL.eff rfl (OP.store1 sz9 rfl rfl rfl rfl hB3 (by rw [List.size_toArray, Rec.length rfl]; decide) rfl ?_)
                  intro w15 hc15 hs15 hB3n
                  have hB3 := hB3n
                  rw [show (0 + 20 : Nat) = 20 from rfl, Rec.set20 rfl] at hB3
                  have hC := hC.then hc15 (fun k hk e => by omega)
                  have hG := hG.kept hc15 (by omega)
                  have hR := hc15.at hR (by omega)
                  have hB2 := hc15.at hB2 (by omega)
                  have hsz := Nat.le_trans hsz hc15.size
                  refine WL.nil ?_
                  refine EW.inNormal ?_
                  exact EW.cutK [0, 2, 3, 6] ⟨_, a5, false, rfl, rfl, ⟨hsl, by simp, by show dat.length ≤ _; omega⟩, hR, hC, hG, hsz, hB2, hB3, by rw [body_other (bs := bs) (nm := s) (ty := v2) (a := a5) (n := v5) (ttl := ttlOf v4) (by omega) (by omega) (by omega)]; exact ⟨by rw [hdat0]; rfl, rfl⟩⟩
      · skip
        refine WL.op (by decide) (R.move rfl) ?_
        refine WL.pass (by decide) rfl rfl rfl ?_
        refine WL.pass (by decide) rfl rfl rfl ?_
        refine WL.op (by decide) (R.pickF rfl rfl) ?_
        refine WL.op (by decide) (R.assign rfl) ?_
        refine WL.next ?_
        refine CW.condF rfl ?_
        refine CW.rseq ?_
        refine WL.op (by decide) (FA57_1 rfl) ?_
        refine WL.op (by decide) (R.load (v := .int .i64 (v2 : Int)) Tryd.underlying3 rfl rfl (cell_at hB3 (Rec.at1 _))) ?_
        refine WL.eqlS (by decide) rfl rfl (fun h17 => ?_) (fun h17 => ?_)
        · skip
          refine WL.op (by decide) (R.move rfl) ?_
          refine WL.gop (by decide) rfl rfl rfl (R.move rfl) ?_
          refine WL.gsplit _ (by decide) rfl rfl rfl (R.eqlD rfl rfl) (fun h18 => ?_) (fun h18 => ?_)
          · skip
            refine WL.op (by decide) (R.pickT rfl rfl) ?_
            refine WL.op (by decide) (R.assign rfl) ?_
            refine WL.next ?_
            refine CW.condT rfl ?_
            refine CW.region ?_
            refine WL.op (by decide) (FA57_3 rfl) ?_
            refine WL.op (by decide) (R.sliceArr (lv := none) (hv := none) (l1 := 0) (h1 := 16) Tryd.underlying27 sz5 rfl rfl rfl (by kernel_rfl) (by decide)) ?_
            refine WL.op (by decide) (R.move rfl) ?_
            refine WL.eff rfl (OP.copy (cs := dat) (by decide) rfl rfl hB3 (by rw [(show dat.length = 16 by omega)]; exact (Nat.min_eq_left (by omega) |>.trans (by omega)).symm) (cells_at hdat) (by rw [List.size_toArray, Rec.length rfl, (show dat.length = 16 by omega)]; decide) ?_)
            intro w14 hcp _ hB3n
            have hB3 := hB3n
            rw [show (dat).length = 16 from (show dat.length = 16 by omega)] at hB3
            rw [show (0 + 3 + 0 : Nat) = 3 from rfl, Rec.setAddr rfl ((show dat.length = 16 by omega))] at hB3
            have hC := hC.then hcp (fun k hk e => by omega)
            have hG := hG.kept hcp (by omega)
            have hR := hcp.at hR (by omega)
            have hB2 := hcp.at hB2 (by omega)
            have hsz := Nat.le_trans hsz hcp.size
            refine WL.nil ?_
            refine EW.inNormal ?_
            exact EW.cutK [0, 2, 3, 6] ⟨_, a5, false, rfl, by show dat.length = 16; omega, ⟨hsl, by simp, by simp⟩, hR, hC, hG, hsz, hB2, hB3, by rw [body_aaaa (bs := bs) (nm := s) (ty := v2) (a := a5) (n := v5) (ttl := ttlOf v4) (by omega) (by omega)]; exact ⟨by rw [hdat0]; rfl, rfl⟩⟩
          · skip
            refine WL.op (by decide) (R.pickT rfl rfl) ?_
            refine WL.op (by decide) (R.assign rfl) ?_
            refine WL.next ?_
            refine CW.condF rfl ?_
            refine CW.rseq ?_
            refine WL.op (by decide) (FA57_1 rfl) ?_
            refine WL.op (by decide) (R.load (v := .int .i64 (v2 : Int)) Tryd.underlying3 rfl rfl (cell_at hB3 (Rec.at1 _))) ?_
            refine WL.eqlS (by decide) rfl rfl (fun h19 => ?_) (fun h19 => ?_)
            · skip
              refine WL.op (by decide) (R.move rfl) ?_
              refine WL.pass (by decide) rfl rfl rfl ?_
              refine WL.pass (by decide) rfl rfl rfl ?_
              refine WL.pass (by decide) rfl rfl rfl ?_
              refine WL.op (by decide) (R.pickT rfl rfl) ?_
              refine WL.op (by decide) (R.move rfl) ?_
              refine WL.pass (by decide) rfl rfl rfl ?_
              refine WL.pass (by decide) rfl rfl rfl ?_
              refine WL.pass (by decide) rfl rfl rfl ?_
              refine WL.op (by decide) (R.pickT rfl rfl) ?_
              refine WL.op (by decide) (R.assign rfl) ?_
              refine WL.next ?_
              refine CW.condT rfl ?_
              refine CW.rseq ?_
              refine WL.op (by decide) (R.move rfl) ?_
              refine WL.eff rfl (OP.call (by decide) Tryd.func46 (by kernel_rfl) (by kernel_rfl) rfl (rname_st rb _ m c bs a5 false _ hR hS (fun g o h => (hg g o h).1) hin9 hm) ?_)
              rintro ed w14 ⟨s2, a6, b6, rfl, hR, hc14, hn2, hs2l⟩
              refine ⟨_, rfl, ?_⟩
              have hC := hC.trans hc14
              have hS := hS.kept hc14 (fun g o h => (hg g o h).1)
              have hG := hG.kept hc14 (by omega)
              have hsz := Nat.le_trans hsz hc14.size
              have hB2 := hc14.at hB2 (by omega)
              have hB3 := hc14.at hB3 (by omega)
              refine WL.op (by decide) (FA57_4 rfl) ?_
              refine WL.eff rfl (OP.store1 sz9 rfl rfl rfl rfl hB3 (by rw [List.size_toArray, Rec.length rfl]; decide) rfl ?_)
              intro w15 hc15 hs15 hB3n
              have hB3 := hB3n
              rw [show (0 + 19 : Nat) = 19 from rfl, Rec.set19 rfl] at hB3
              have hC := hC.then hc15 (fun k hk e => by omega)
              have hG := hG.kept hc15 (by omega)
              have hS := hS.kept hc15 (fun g o h e => by have := hg g o h; omega)
              have hR := hc15.at hR (by omega)
              have hB2 := hc15.at hB2 (by omega)
              have hsz := Nat.le_trans hsz hc15.size
              refine WL.next ?_
              refine CW.rseq ?_
              refine WL.op (by decide) (R.move rfl) ?_
              refine WL.op (by decide) (R.nilCheck rfl) ?_
              refine WL.op (by decide) (FA100_1 rfl) ?_
              refine WL.op (by decide) (R.load Tryd.underlying3 rfl rfl (cell_at hR rfl)) ?_
              refine WL.op (by decide) (R.move rfl) ?_
              refine WL.neqS (by decide) rfl rfl (fun h20 => ?_) (fun h20 => ?_)
              · skip
                refine WL.next ?_
                refine CW.condT rfl ?_
                refine CW.region ?_
                refine WL.op (by decide) (R.move rfl) ?_
                refine WL.op (by decide) (R.nilCheck rfl) ?_
                refine WL.op (by decide) (FA100_2 rfl) ?_
                refine WL.eff rfl (OP.store1 sz4 rfl rfl rfl rfl hR (Nat.le_of_ble_eq_true rfl) rfl ?_)
                intro w16 hcs _ hR
                have hC := hC.trans hcs
                have hS := hS.kept hcs (fun g o h => (hg g o h).1)
                have hG := hG.kept hcs (by omega)
                have hsz := Nat.le_trans hsz hcs.size
                have hB2 := hcs.at hB2 (by omega)
                have hB3 := hcs.at hB3 (by omega)
                refine WL.nil ?_
                refine EW.inNormal ?_
                exact EW.cutK [0, 2, 3, 6] ⟨_, a6, true, rfl, rfl, ⟨hsl, Nat.le_trans hs2l (by decide), by simp⟩, hR, hC, hG, hsz, hB2, hB3, by rw [body_far (bs := bs) (nm := s) (ty := v2) (a := a5) (n := v5) (ttl := ttlOf v4) (by omega) hn2 (by omega)]; rfl⟩
              · skip
                refine WL.next ?_
                refine CW.condF rfl ?_
                refine CW.skip ?_
                refine EW.inNormal ?_
                exact EW.cutK [0, 2, 3, 6] ⟨_, a6, _, rfl, rfl, ⟨hsl, Nat.le_trans hs2l (by decide), by simp⟩, hR, hC, hG, hsz, hB2, hB3, body_near (bs := bs) (nm := s) (ty := v2) (a := a5) (n := v5) (ttl := ttlOf v4) (by omega) hn2 (by omega)⟩
            · skip
              refine WL.op (by decide) (R.move rfl) ?_
              refine WL.gop (by decide) rfl rfl rfl (FA57_1 rfl) ?_
              refine WL.gop (by decide) rfl rfl rfl (R.load (v := .int .i64 (v2 : Int)) Tryd.underlying3 rfl rfl (cell_at hB3 (Rec.at1 _))) ?_
              refine WL.gsplit _ (by decide) rfl rfl rfl (R.eqlD rfl rfl) (fun h21 => ?_) (fun h21 => ?_)
              · skip
                refine WL.op (by decide) (R.pickF rfl rfl) ?_
                refine WL.op (by decide) (R.move rfl) ?_
                refine WL.pass (by decide) rfl rfl rfl ?_
                refine WL.pass (by decide) rfl rfl rfl ?_
                refine WL.pass (by decide) rfl rfl rfl ?_
                refine WL.op (by decide) (R.pickT rfl rfl) ?_
                refine WL.op (by decide) (R.assign rfl) ?_
                refine WL.next ?_
                refine CW.condT rfl ?_
                refine CW.rseq ?_
                refine WL.op (by decide) (R.move rfl) ?_
                refine WL.eff rfl (OP.call (by decide) Tryd.func46 (by kernel_rfl) (by kernel_rfl) rfl (rname_st rb _ m c bs a5 false _ hR hS (fun g o h => (hg g o h).1) hin9 hm) ?_)
                rintro ed w14 ⟨s2, a6, b6, rfl, hR, hc14, hn2, hs2l⟩
                refine ⟨_, rfl, ?_⟩
                have hC := hC.trans hc14
                have hS := hS.kept hc14 (fun g o h => (hg g o h).1)
                have hG := hG.kept hc14 (by omega)
                have hsz := Nat.le_trans hsz hc14.size
                have hB2 := hc14.at hB2 (by omega)
                have hB3 := hc14.at hB3 (by omega)
                refine WL.op (by decide) (FA57_4 rfl) ?_
                refine WL.eff rfl (OP.store1 sz9 rfl rfl rfl rfl hB3 (by rw [List.size_toArray, Rec.length rfl]; decide) rfl ?_)
                intro w15 hc15 hs15 hB3n
                have hB3 := hB3n
                rw [show (0 + 19 : Nat) = 19 from rfl, Rec.set19 rfl] at hB3
                have hC := hC.then hc15 (fun k hk e => by omega)
                have hG := hG.kept hc15 (by omega)
                have hS := hS.kept hc15 (fun g o h e => by have := hg g o h; omega)
                have hR := hc15.at hR (by omega)
                have hB2 := hc15.at hB2 (by omega)
                have hsz := Nat.le_trans hsz hc15.size
                refine WL.next ?_
                refine CW.rseq ?_
                refine WL.op (by decide) (R.move rfl) ?_
                refine WL.op (by decide) (R.nilCheck rfl) ?_
                refine WL.op (by decide) (FA100_1 rfl) ?_
                refine WL.op (by decide) (R.load Tryd.underlying3 rfl rfl (cell_at hR rfl)) ?_
                refine WL.op (by decide) (R.move rfl) ?_
                refine WL.neqS (by decide) rfl rfl (fun h22 => ?_) (fun h22 => ?_)
                · skip
                  refine WL.next ?_
                  refine CW.condT rfl ?_
                  refine CW.region ?_
                  refine WL.op (by decide) (R.move rfl) ?_
                  refine WL.op (by decide) (R.nilCheck rfl) ?_
                  refine WL.op (by decide) (FA100_2 rfl) ?_
                  refine WL.eff rfl (OP.store1 sz4 rfl rfl rfl rfl hR (Nat.le_of_ble_eq_true rfl) rfl ?_)
                  intro w16 hcs _ hR
                  have hC := hC.trans hcs
                  have hS := hS.kept hcs (fun g o h => (hg g o h).1)
                  have hG := hG.kept hcs (by omega)
                  have hsz := Nat.le_trans hsz hcs.size
                  have hB2 := hcs.at hB2 (by omega)
                  have hB3 := hcs.at hB3 (by omega)
                  refine WL.nil ?_
                  refine EW.inNormal ?_
                  exact EW.cutK [0, 2, 3, 6] ⟨_, a6, true, rfl, rfl, ⟨hsl, Nat.le_trans hs2l (by decide), by simp⟩, hR, hC, hG, hsz, hB2, hB3, by rw [body_far (bs := bs) (nm := s) (ty := v2) (a := a5) (n := v5) (ttl := ttlOf v4) (by omega) hn2 (by omega)]; rfl⟩
                · skip
                  refine WL.next ?_
                  refine CW.condF rfl ?_
                  refine CW.skip ?_
                  refine EW.inNormal ?_
                  exact EW.cutK [0, 2, 3, 6] ⟨_, a6, _, rfl, rfl, ⟨hsl, Nat.le_trans hs2l (by decide), by simp⟩, hR, hC, hG, hsz, hB2, hB3, body_near (bs := bs) (nm := s) (ty := v2) (a := a5) (n := v5) (ttl := ttlOf v4) (by omega) hn2 (by omega)⟩
              · skip
                refine WL.op (by decide) (R.pickF rfl rfl) ?_
                refine WL.op (by decide) (R.move rfl) ?_
                refine WL.gop (by decide) rfl rfl rfl (FA57_1 rfl) ?_
                refine WL.gop (by decide) rfl rfl rfl (R.load (v := .int .i64 (v2 : Int)) Tryd.underlying3 rfl rfl (cell_at hB3 (Rec.at1 _))) ?_
                refine WL.gsplit _ (by decide) rfl rfl rfl (R.eqlD rfl rfl) (fun h23 => ?_) (fun h23 => ?_)
                · skip
                  refine WL.op (by decide) (R.pickF rfl rfl) ?_
                  refine WL.op (by decide) (R.assign rfl) ?_
                  refine WL.next ?_
                  refine CW.condT rfl ?_
                  refine CW.rseq ?_
                  refine WL.op (by decide) (R.move rfl) ?_
                  refine WL.eff rfl (OP.call (by decide) Tryd.func46 (by kernel_rfl) (by kernel_rfl) rfl (rname_st rb _ m c bs a5 false _ hR hS (fun g o h => (hg g o h).1) hin9 hm) ?_)
                  rintro ed w14 ⟨s2, a6, b6, rfl, hR, hc14, hn2, hs2l⟩
                  refine ⟨_, rfl, ?_⟩
                  have hC := hC.trans hc14
                  have hS := hS.kept hc14 (fun g o h => (hg g o h).1)
                  have hG := hG.kept hc14 (by omega)
                  have hsz := Nat.le_trans hsz hc14.size
                  have hB2 := hc14.at hB2 (by omega)
                  have hB3 := hc14.at hB3 (by omega)
                  refine WL.op (by decide) (FA57_4 rfl) ?_
                  refine WL.eff rfl (OP.store1 sz9 rfl rfl rfl rfl hB3 (by rw [List.size_toArray, Rec.length rfl]; decide) rfl ?_)
                  intro w15 hc15 hs15 hB3n
                  have hB3 := hB3n
                  rw [show (0 + 19 : Nat) = 19 from rfl, Rec.set19 rfl] at hB3
                  have hC := hC.then hc15 (fun k hk e => by omega)
                  have hG := hG.kept hc15 (by omega)
                  have hS := hS.kept hc15 (fun g o h e => by have := hg g o h; omega)
                  have hR := hc15.at hR (by omega)
                  have hB2 := hc15.at hB2 (by omega)
                  have hsz := Nat.le_trans hsz hc15.size
                  refine WL.next ?_
                  refine CW.rseq ?_
                  refine WL.op (by decide) (R.move rfl) ?_
                  refine WL.op (by decide) (R.nilCheck rfl) ?_
                  refine WL.op (by decide) (FA100_1 rfl) ?_
                  refine WL.op (by decide) (R.load Tryd.underlying3 rfl rfl (cell_at hR rfl)) ?_
                  refine WL.op (by decide) (R.move rfl) ?_
                  refine WL.neqS (by decide) rfl rfl (fun h24 => ?_) (fun h24 => ?_)
                  · skip
                    refine WL.next ?_
                    refine CW.condT rfl ?_
                    refine CW.region ?_
                    refine WL.op (by decide) (R.move rfl) ?_
                    refine WL.op (by decide) (R.nilCheck rfl) ?_
                    refine WL.op (by decide) (FA100_2 rfl) ?_
                    refine WL.eff rfl (OP.store1 sz4 rfl rfl rfl rfl hR (Nat.le_of_ble_eq_true rfl) rfl ?_)
                    intro w16 hcs _ hR
                    have hC := hC.trans hcs
                    have hS := hS.kept hcs (fun g o h => (hg g o h).1)
                    have hG := hG.kept hcs (by omega)
                    have hsz := Nat.le_trans hsz hcs.size
                    have hB2 := hcs.at hB2 (by omega)
                    have hB3 := hcs.at hB3 (by omega)
                    refine WL.nil ?_
                    refine EW.inNormal ?_
                    exact EW.cutK [0, 2, 3, 6] ⟨_, a6, true, rfl, rfl, ⟨hsl, Nat.le_trans hs2l (by decide), by simp⟩, hR, hC, hG, hsz, hB2, hB3, by rw [body_far (bs := bs) (nm := s) (ty := v2) (a := a5) (n := v5) (ttl := ttlOf v4) (by omega) hn2 (by omega)]; rfl⟩
                  · skip
                    refine WL.next ?_
                    refine CW.condF rfl ?_
                    refine CW.skip ?_
                    refine EW.inNormal ?_
                    exact EW.cutK [0, 2, 3, 6] ⟨_, a6, _, rfl, rfl, ⟨hsl, Nat.le_trans hs2l (by decide), by simp⟩, hR, hC, hG, hsz, hB2, hB3, body_near (bs := bs) (nm := s) (ty := v2) (a := a5) (n := v5) (ttl := ttlOf v4) (by omega) hn2 (by omega)⟩
                · skip
                  refine WL.op (by decide) (R.pickF rfl rfl) ?_
                  refine WL.op (by decide) (R.assign rfl) ?_
                  refine WL.next ?_
                  refine CW.condF rfl ?_
                  refine CW.region ?_
                  refine WL.op (by decide) (R.move rfl) ?_
                  refine WL.op (by decide) (R.strOf (s := dat) rfl hdl hdat) ?_
                  refine WL.op (by decide) (FA57_5 rfl) ?_
                  refine WL.eff rfl (OP.store1 sz9 rfl rfl rfl rfl hB3 (by rw [List.size_toArray, Rec.length rfl]; decide) rfl ?_)
                  intro w15 hc15 hs15 hB3n
                  have hB3 := hB3n
                  rw [show (0 + 20 : Nat) = 20 from rfl, Rec.set20 rfl] at hB3
                  have hC := hC.then hc15 (fun k hk e => by omega)
                  have hG := hG.kept hc15 (by omega)
                  have hR := hc15.at hR (by omega)
                  have hB2 := hc15.at hB2 (by omega)
                  have hsz := Nat.le_trans hsz hc15.size
                  refine WL.nil ?_
                  refine EW.inNormal ?_
                  exact EW.cutK [0, 2, 3, 6] ⟨_, a5, false, rfl, rfl, ⟨hsl, by simp, by show dat.length ≤ _; omega⟩, hR, hC, hG, hsz, hB2, hB3, by rw [body_other (bs := bs) (nm := s) (ty := v2) (a := a5) (n := v5) (ttl := ttlOf v4) (by omega) (by omega) (by omega)]; exact ⟨by rw [hdat0]; rfl, rfl⟩⟩
        · skip
          refine WL.op (by decide) (R.move rfl) ?_
          refine WL.pass (by decide) rfl rfl rfl ?_
          refine WL.pass (by decide) rfl rfl rfl ?_
          refine WL.op (by decide) (R.pickF rfl rfl) ?_
          refine WL.op (by decide) (R.assign rfl) ?_
          refine WL.next ?_
          refine CW.condF rfl ?_
          refine CW.rseq ?_
          refine WL.op (by decide) (FA57_1 rfl) ?_
          refine WL.op (by decide) (R.load (v := .int .i64 (v2 : Int)) Tryd.underlying3 rfl rfl (cell_at hB3 (Rec.at1 _))) ?_
          refine WL.eqlS (by decide) rfl rfl (fun h25 => ?_) (fun h25 => ?_)
          · skip
            refine WL.op (by decide) (R.move rfl) ?_
            refine WL.pass (by decide) rfl rfl rfl ?_
            refine WL.pass (by decide) rfl rfl rfl ?_
            refine WL.pass (by decide) rfl rfl rfl ?_
            refine WL.op (by decide) (R.pickT rfl rfl) ?_
            refine WL.op (by decide) (R.move rfl) ?_
            refine WL.pass (by decide) rfl rfl rfl ?_
            refine WL.pass (by decide) rfl rfl rfl ?_
            refine WL.pass (by decide) rfl rfl rfl ?_
            refine WL.op (by decide) (R.pickT rfl rfl) ?_
            refine WL.op (by decide) (R.assign rfl) ?_
            refine WL.next ?_
            refine CW.condT rfl ?_
            refine CW.rseq ?_
            refine WL.op (by decide) (R.move rfl) ?_
            refine WL.eff rfl (OP.call (by decide) Tryd.func46 (by kernel_rfl) (by kernel_rfl) rfl (rname_st rb _ m c bs a5 false _ hR hS (fun g o h => (hg g o h).1) hin9 hm) ?_)
            rintro ed w14 ⟨s2, a6, b6, rfl, hR, hc14, hn2, hs2l⟩
            refine ⟨_, rfl, ?_⟩
            have hC := hC.trans hc14
            have hS := hS.kept hc14 (fun g o h => (hg g o h).1)
            have hG := hG.kept hc14 (by omega)
            have hsz := Nat.le_trans hsz hc14.size
            have hB2 := hc14.at hB2 (by omega)
            have hB3 := hc14.at hB3 (by omega)
            refine WL.op (by decide) (FA57_4 rfl) ?_
            refine WL.eff rfl (OP.store1 sz9 rfl rfl rfl rfl hB3 (by rw [List.size_toArray, Rec.length rfl]; decide) rfl ?_)
            intro w15 hc15 hs15 hB3n
            have hB3 := hB3n
            rw [show (0 + 19 : Nat) = 19 from rfl, Rec.set19 rfl] at hB3
            have hC := hC.then hc15 (fun k hk e => by omega)
            have hG := hG.kept hc15 (by omega)
            have hS := hS.kept hc15 (fun g o h e => by have := hg g o h; omega)
            have hR := hc15.at hR (by omega)
            have hB2 := hc15.at hB2 (by omega)
            have hsz := Nat.le_trans hsz hc15.size
            refine WL.next ?_
            refine CW.rseq ?_
            refine WL.op (by decide) (R.move rfl) ?_
            refine WL.op (by decide) (R.nilCheck rfl) ?_
            refine WL.op (by decide) (FA100_1 rfl) ?_
            refine WL.op (by decide) (R.load Tryd.underlying3 rfl rfl (cell_at hR rfl)) ?_
            refine WL.op (by decide) (R.move rfl) ?_
            refine WL.neqS (by decide) rfl rfl (fun h26 => ?_) (fun h26 => ?_)
            · skip
              refine WL.next ?_
              refine CW.condT rfl ?_
              refine CW.region ?_
              refine WL.op (by decide) (R.move rfl) ?_
              refine WL.op (by decide) (R.nilCheck rfl) ?_
              refine WL.op (by decide) (FA100_2 rfl) ?_
              refine WL.eff rfl (OP.store1 sz4 rfl rfl rfl rfl hR (Nat.le_of_ble_eq_true rfl) rfl ?_)
              intro w16 hcs _ hR
              have hC := hC.trans hcs
              have hS := hS.kept hcs (fun g o h => (hg g o h).1)
              have hG := hG.kept hcs (by omega)
              have hsz := Nat.le_trans hsz hcs.size
              have hB2 := hcs.at hB2 (by omega)
              have hB3 := hcs.at hB3 (by omega)
              refine WL.nil ?_
              refine EW.inNormal ?_
              exact EW.cutK [0, 2, 3, 6] ⟨_, a6, true, rfl, rfl, ⟨hsl, Nat.le_trans hs2l (by decide), by simp⟩, hR, hC, hG, hsz, hB2, hB3, by rw [body_far (bs := bs) (nm := s) (ty := v2) (a := a5) (n := v5) (ttl := ttlOf v4) (by omega) hn2 (by omega)]; rfl⟩
            · skip
              refine WL.next ?_
              refine CW.condF rfl ?_
              refine CW.skip ?_
              refine EW.inNormal ?_
              exact EW.cutK [0, 2, 3, 6] ⟨_, a6, _, rfl, rfl, ⟨hsl, Nat.le_trans hs2l (by decide), by simp⟩, hR, hC, hG, hsz, hB2, hB3, body_near (bs := bs) (nm := s) (ty := v2) (a := a5) (n := v5) (ttl := ttlOf v4) (by omega) hn2 (by omega)⟩
          · skip
            refine WL.op (by decide) (R.move rfl) ?_
            refine WL.gop (by decide) rfl rfl rfl (FA57_1 rfl) ?_
            refine WL.gop (by decide) rfl rfl rfl (R.load (v := .int .i64 (v2 : Int)) Tryd.underlying3 rfl rfl (cell_at hB3 (Rec.at1 _))) ?_
            refine WL.gsplit _ (by decide) rfl rfl rfl (R.eqlD rfl rfl) (fun h27 => ?_) (fun h27 => ?_)
            · skip
              refine WL.op (by decide) (R.pickF rfl rfl) ?_
              refine WL.op (by decide) (R.move rfl) ?_
              refine WL.pass (by decide) rfl rfl rfl ?_
              refine WL.pass (by decide) rfl rfl rfl ?_
              refine WL.pass (by decide) rfl rfl rfl ?_
              refine WL.op (by decide) (R.pickT rfl rfl) ?_
              refine WL.op (by decide) (R.assign rfl) ?_
              refine WL.next ?_
              refine CW.condT rfl ?_
              refine CW.rseq ?_
              refine WL.op (by decide) (R.move rfl) ?_
              refine WL.eff rfl (OP.call (by decide) Tryd.func46 (by kernel_rfl) (by kernel_rfl) rfl (rname_st rb _ m c bs a5 false _ hR hS (fun g o h => (hg g o h).1) hin9 hm) ?_)
              rintro ed w14 ⟨s2, a6, b6, rfl, hR, hc14, hn2, hs2l⟩
              refine ⟨_, rfl, ?_⟩
              have hC := hC.trans hc14
              have hS := hS.kept hc14 (fun g o h => (hg g o h).1)
              have hG := hG.kept hc14 (by omega)
              have hsz := Nat.le_trans hsz hc14.size
              have hB2 := hc14.at hB2 (by omega)
              have hB3 := hc14.at hB3 (by omega)
              refine WL.op (by decide) (FA57_4 rfl) ?_
              refine WL.eff rfl (OP.store1 sz9 rfl rfl rfl rfl hB3 (by rw [List.size_toArray, Rec.length rfl]; decide) rfl ?_)
              intro w15 hc15 hs15 hB3n
              have hB3 := hB3n
              rw [show (0 + 19 : Nat) = 19 from rfl, Rec.set19 rfl] at hB3
              have hC := hC.then hc15 (fun k hk e => by omega)
              have hG := hG.kept hc15 (by omega)
              have hS := hS.kept hc15 (fun g o h e => by have := hg g o h; omega)
              have hR := hc15.at hR (by omega)
              have hB2 := hc15.at hB2 (by omega)
              have hsz := Nat.le_trans hsz hc15.size
              refine WL.next ?_
              refine CW.rseq ?_
              refine WL.op (by decide) (R.move rfl) ?_
              refine WL.op (by decide) (R.nilCheck rfl) ?_
              refine WL.op (by decide) (FA100_1 rfl) ?_
              refine WL.op (by decide) (R.load Tryd.underlying3 rfl rfl (cell_at hR rfl)) ?_
              refine WL.op (by decide) (R.move rfl) ?_
              refine WL.neqS (by decide) rfl rfl (fun h28 => ?_) (fun h28 => ?_)
              · skip
                refine WL.next ?_
                refine CW.condT rfl ?_
                refine CW.region ?_
                refine WL.op (by decide) (R.move rfl) ?_
                refine WL.op (by decide) (R.nilCheck rfl) ?_
                refine WL.op (by decide) (FA100_2 rfl) ?_
                refine WL.eff rfl (OP.store1 sz4 rfl rfl rfl rfl hR (Nat.le_of_ble_eq_true rfl) rfl ?_)
                intro w16 hcs _ hR
                have hC := hC.trans hcs
                have hS := hS.kept hcs (fun g o h => (hg g o h).1)
                have hG := hG.kept hcs (by omega)
                have hsz := Nat.le_trans hsz hcs.size
                have hB2 := hcs.at hB2 (by omega)
                have hB3 := hcs.at hB3 (by omega)
                refine WL.nil ?_
                refine EW.inNormal ?_
                exact EW.cutK [0, 2, 3, 6] ⟨_, a6, true, rfl, rfl, ⟨hsl, Nat.le_trans hs2l (by decide), by simp⟩, hR, hC, hG, hsz, hB2, hB3, by rw [body_far (bs := bs) (nm := s) (ty := v2) (a := a5) (n := v5) (ttl := ttlOf v4) (by omega) hn2 (by omega)]; rfl⟩
              · skip
                refine WL.next ?_
                refine CW.condF rfl ?_
                refine CW.skip ?_
                refine EW.inNormal ?_
                exact EW.cutK [0, 2, 3, 6] ⟨_, a6, _, rfl, rfl, ⟨hsl, Nat.le_trans hs2l (by decide), by simp⟩, hR, hC, hG, hsz, hB2, hB3, body_near (bs := bs) (nm := s) (ty := v2) (a := a5) (n := v5) (ttl := ttlOf v4) (by omega) hn2 (by omega)⟩
            · skip
              refine WL.op (by decide) (R.pickF rfl rfl) ?_
              refine WL.op (by decide) (R.move rfl) ?_
              refine WL.gop (by decide) rfl rfl rfl (FA57_1 rfl) ?_
              refine WL.gop (by decide) rfl rfl rfl (R.load (v := .int .i64 (v2 : Int)) Tryd.underlying3 rfl rfl (cell_at hB3 (Rec.at1 _))) ?_
              refine WL.gsplit _ (by decide) rfl rfl rfl (R.eqlD rfl rfl) (fun h29 => ?_) (fun h29 => ?_)
              · skip
                refine WL.op (by decide) (R.pickF rfl rfl) ?_
                refine WL.op (by decide) (R.assign rfl) ?_
                refine WL.next ?_
                refine CW.condT rfl ?_
                refine CW.rseq ?_
                refine WL.op (by decide) (R.move rfl) ?_
                refine WL.eff rfl (OP.call (by decide) Tryd.func46 (by kernel_rfl) (by kernel_rfl) rfl (rname_st rb _ m c bs a5 false _ hR hS (fun g o h => (hg g o h).1) hin9 hm) ?_)
                rintro ed w14 ⟨s2, a6, b6, rfl, hR, hc14, hn2, hs2l⟩
                refine ⟨_, rfl, ?_⟩
                have hC := hC.trans hc14
                have hS := hS.kept hc14 (fun g o h => (hg g o h).1)
                have hG := hG.kept hc14 (by omega)
                have hsz := Nat.le_trans hsz hc14.size
                have hB2 := hc14.at hB2 (by omega)
                have hB3 := hc14.at hB3 (by omega)
                refine WL.op (by decide) (FA57_4 rfl) ?_
                refine WL.eff rfl (OP.store1 sz9 rfl rfl rfl rfl hB3 (by rw [List.size_toArray, Rec.length rfl]; decide) rfl ?_)
                intro w15 hc15 hs15 hB3n
                have hB3 := hB3n
                rw [show (0 + 19 : Nat) = 19 from rfl, Rec.set19 rfl] at hB3
                have hC := hC.then hc15 (fun k hk e => by omega)
                have hG := hG.kept hc15 (by omega)
                have hS := hS.kept hc15 (fun g o h e => by have := hg g o h; omega)
                have hR := hc15.at hR (by omega)
                have hB2 := hc15.at hB2 (by omega)
                have hsz := Nat.le_trans hsz hc15.size
                refine WL.next ?_
                refine CW.rseq ?_
                refine WL.op (by decide) (R.move rfl) ?_
                refine WL.op (by decide) (R.nilCheck rfl) ?_
                refine WL.op (by decide) (FA100_1 rfl) ?_
                refine WL.op (by decide) (R.load Tryd.underlying3 rfl rfl (cell_at hR rfl)) ?_
                refine WL.op (by decide) (R.move rfl) ?_
                refine WL.neqS (by decide) rfl rfl (fun h30 => ?_) (fun h30 => ?_)
                · skip
                  refine WL.next ?_
                  refine CW.condT rfl ?_
                  refine CW.region ?_
                  refine WL.op (by decide) (R.move rfl) ?_
                  refine WL.op (by decide) (R.nilCheck rfl) ?_
                  refine WL.op (by decide) (FA100_2 rfl) ?_
                  refine WL.eff rfl (OP.store1 sz4 rfl rfl rfl rfl hR (Nat.le_of_ble_eq_true rfl) rfl ?_)
                  intro w16 hcs _ hR
                  have hC := hC.trans hcs
                  have hS := hS.kept hcs (fun g o h => (hg g o h).1)
                  have hG := hG.kept hcs (by omega)
                  have hsz := Nat.le_trans hsz hcs.size
                  have hB2 := hcs.at hB2 (by omega)
                  have hB3 := hcs.at hB3 (by omega)
                  refine WL.nil ?_
                  refine EW.inNormal ?_
                  exact EW.cutK [0, 2, 3, 6] ⟨_, a6, true, rfl, rfl, ⟨hsl, Nat.le_trans hs2l (by decide), by simp⟩, hR, hC, hG, hsz, hB2, hB3, by rw [body_far (bs := bs) (nm := s) (ty := v2) (a := a5) (n := v5) (ttl := ttlOf v4) (by omega) hn2 (by omega)]; rfl⟩
                · skip
                  refine WL.next ?_
                  refine CW.condF rfl ?_
                  refine CW.skip ?_
                  refine EW.inNormal ?_
                  exact EW.cutK [0, 2, 3, 6] ⟨_, a6, _, rfl, rfl, ⟨hsl, Nat.le_trans hs2l (by decide), by simp⟩, hR, hC, hG, hsz, hB2, hB3, body_near (bs := bs) (nm := s) (ty := v2) (a := a5) (n := v5) (ttl := ttlOf v4) (by omega) hn2 (by omega)⟩
              · skip
                refine WL.op (by decide) (R.pickF rfl rfl) ?_
                refine WL.op (by decide) (R.assign rfl) ?_
                refine WL.next ?_
                refine CW.condF rfl ?_
                refine CW.region ?_
                refine WL.op (by decide) (R.move rfl) ?_
                refine WL.op (by decide) (R.strOf (s := dat) rfl hdl hdat) ?_
                refine WL.op (by decide) (FA57_5 rfl) ?_
                refine WL.eff rfl (OP.store1 sz9 rfl rfl rfl rfl hB3 (by rw [List.size_toArray, Rec.length rfl]; decide) rfl ?_)
                intro w15 hc15 hs15 hB3n
                have hB3 := hB3n
                rw [show (0 + 20 : Nat) = 20 from rfl, Rec.set20 rfl] at hB3
                have hC := hC.then hc15 (fun k hk e => by omega)
                have hG := hG.kept hc15 (by omega)
                have hR := hc15.at hR (by omega)
                have hB2 := hc15.at hB2 (by omega)
                have hsz := Nat.le_trans hsz hc15.size
                refine WL.nil ?_
                refine EW.inNormal ?_
                exact EW.cutK [0, 2, 3, 6] ⟨_, a5, false, rfl, rfl, ⟨hsl, by simp, by show dat.length ≤ _; omega⟩, hR, hC, hG, hsz, hB2, hB3, by rw [body_other (bs := bs) (nm := s) (ty := v2) (a := a5) (n := v5) (ttl := ttlOf v4) (by omega) (by omega) (by omega)]; exact ⟨by rw [hdat0]; rfl, rfl⟩⟩
    · rintro l wr ⟨r, a', b', rfl, hr16, hsmall, hR, hC, hG, hsz, hB2, hB3, hres⟩
      refine CW.rseq ?_
      refine WL.op (by decide) (R.move rfl) ?_
      refine WL.op (by decide) (R.move rfl) ?_
      refine WL.op (by decide) (R.nilCheck rfl) ?_
      refine WL.op (by decide) (FA100_1 rfl) ?_
      refine WL.eff rfl (OP.store1 sz3 rfl rfl rfl rfl hR (Nat.le_of_ble_eq_true rfl) rfl ?_)
      intro w17 hc17 hs17 hRn
      have hR : RSt w17 rb (some ⟨g, o, none⟩) m c (a5 + v5) b' := hRn
      have hC := hC.trans hc17
      have hG := hG.kept hc17 (by omega)
      have hB2 := hc17.at hB2 (by omega)
      have hB3 := hc17.at hB3 (by omega)
      have hsz := Nat.le_trans hsz hc17.size
      refine WL.next ?_
      refine CW.seq ?_
      refine CW.rseq ?_
      refine WL.op (by decide) (R.loadRB hr16 rfl hB3) ?_
      refine WL.eff rfl (OP.call (by decide) Tryd.func41 (by kernel_rfl) (by kernel_rfl) rfl (mright_any r _ hr16 hG hsmall.1 hsmall.2.1 hsmall.2.2) ?_)
      rintro ed w18 ⟨rfl, hc18⟩
      refine ⟨_, rfl, ?_⟩
      have hC := hC.trans (hc18.mono (fun _ _ h => h.elim))
      have hR := hc18.at hR (fun h => h)
      have hB2 := hc18.at hB2 (fun h => h)
      have hB3 := hc18.at hB3 (fun h => h)
      have hsz := Nat.le_trans hsz hc18.size
      cases hr : rightR r
      · skip
        refine WL.op (by decide) (R.not rfl) ?_
        refine WL.next ?_
        refine CW.condT rfl ?_
        refine CW.region ?_
        refine WL.op (by decide) (R.move rfl) ?_
        refine WL.op (by decide) (R.nilCheck rfl) ?_
        refine WL.op (by decide) (FA100_2 rfl) ?_
        refine WL.eff rfl (OP.store1 sz4 rfl rfl rfl rfl hR (Nat.le_of_ble_eq_true rfl) rfl ?_)
        intro w19 hc19 hs19 hR
        have hC := hC.trans hc19
        have hB2 := hc19.at hB2 (by omega)
        have hB3 := hc19.at hB3 (by omega)
        have hsz := Nat.le_trans hsz hc19.size
        refine WL.nil ?_
        refine EW.next ?_
        refine CW.rseq ?_
        refine WL.op (by decide) (R.loadRB hr16 rfl hB3) ?_
        refine WL.eff rfl (OP.storeR rfl rfl hr16 rfl hB2 ?_)
        intro w20 hc20 hs20 hB2
        have hC := hC.then hc20 (fun k hk e => by omega)
        have hR := hc20.at hR (by omega)
        refine WL.next ?_
        refine CW.ret ?_
        exact EW.retC (.inl rfl) rfl rfl Tryd.underlying57 rfl (by rw [Rec.length hr16]; exact sz57) (fun j u hj => cell_at hB2 (by rw [List.getElem?_toArray]; exact hj)) ⟨r, a5 + v5, _, rfl, hr16, hR, hC, by rw [hbody]; exact rr_false hres hr, (fun _ => by omega), hsmall⟩
      · skip
        refine WL.op (by decide) (R.not rfl) ?_
        refine WL.next ?_
        refine CW.condF rfl ?_
        refine CW.skip ?_
        refine EW.next ?_
        refine CW.rseq ?_
        refine WL.op (by decide) (R.loadRB hr16 rfl hB3) ?_
        refine WL.eff rfl (OP.storeR rfl rfl hr16 rfl hB2 ?_)
        intro w20 hc20 hs20 hB2
        have hC := hC.then hc20 (fun k hk e => by omega)
        have hR := hc20.at hR (by omega)
        refine WL.next ?_
        refine CW.ret ?_
        exact EW.retC (.inl rfl) rfl rfl Tryd.underlying57 rfl (by rw [Rec.length hr16]; exact sz57) (fun j u hj => cell_at hB2 (by rw [List.getElem?_toArray]; exact hj)) ⟨r, a5 + v5, _, rfl, hr16, hR, hC, by rw [hbody]; exact rr_true hres hr, (fun _ => by omega), hsmall⟩
end Go.Proofs.YthcpjcgjmdfpjaaDoor

namespace Go.Proofs.YthcpjcgjmdfpjaaDoor
open Go Go.RowKit
set_option maxRecDepth 100000

/-- So many records, one behind the other. -/
def readRecs (bs : List UInt8) : Nat → Nat → Option (List Rec × Nat)
  | 0, a => some ([], a)
  | k + 1, a => match readRec bs a with
    | none => none
    | some (r, a1) => match readRecs bs k a1 with
      | none => none
      | some (rs, e) => some (r :: rs, e)
/-- What is to come, from a state of the reader. -/
def recsSt (bs : List UInt8) (k a : Nat) (b : Bool) (rs : List Rec) : Option (List Rec × Nat) :=
  if b = true then none else match readRecs bs k a with
    | none => none
    | some (q, e) => some (rs ++ q, e)
theorem recs_step {bs : List UInt8} {k a a2 : Nat} {b b2 : Bool} {rs : List Rec} {r : Rec} (h : RecRes (if b = true then none else readRec bs a) r a2 b2) : recsSt bs (k + 1) a b rs = recsSt bs k a2 b2 (rs ++ [r]) := by
  unfold recsSt
  cases b with
  | true => rw [if_pos rfl] at h; obtain rfl : b2 = true := h; rfl
  | false =>
    rw [if_neg (by simp)] at h ⊢
    cases hr : readRec bs a with
    | none => rw [hr] at h; obtain rfl : b2 = true := h; rw [readRecs, hr]; rfl
    | some p =>
      obtain ⟨r0, a0⟩ := p
      rw [hr] at h
      obtain ⟨rfl, rfl, rfl⟩ := h
      rw [if_neg (by simp), readRecs, hr]
      simp only
      cases readRecs bs k a2 with
      | none => rfl
      | some q => obtain ⟨q, e⟩ := q; simp
theorem recs_zero (bs : List UInt8) (a : Nat) (b : Bool) (rs : List Rec) : recsSt bs 0 a b rs = if b = true then none else some (rs, a) := by
  unfold recsSt
  simp [readRecs]

def finM (m : Msg) : Option Msg := if allM m then some m else none
/-- The message that bytes are. -/
def decode (bs : List UInt8) : Option Msg :=
  if bs.length < 12 then none
  else if 0 < beNat ((bs.drop 2).take 2) &&& 30720 then none
  else if beNat ((bs.drop 4).take 2) ≠ 1 then none
  else if 32 < beNat ((bs.drop 6).take 2) + beNat ((bs.drop 8).take 2) then none
  else match rdName bs 300 12 0 0 [] 12 with
    | none => none
    | some (nm, a) =>
      if bs.length < a + 4 then none
      else if beNat ((bs.drop (a + 2)).take 2) ≠ 1 then none
      else match readRecs bs (beNat ((bs.drop 6).take 2)) (a + 4) with
        | none => none
        | some (an, a2) => match readRecs bs (beNat ((bs.drop 8).take 2)) a2 with
          | none => none
          | some (au, _) => finM ⟨beNat (bs.take 2), decide (0 < beNat ((bs.drop 2).take 2) &&& 32768), decide (0 < beNat ((bs.drop 2).take 2) &&& 512), decide (0 < beNat ((bs.drop 2).take 2) &&& 256), ((beNat ((bs.drop 2).take 2) &&& 15 : Nat) : Int), nm, beNat ((bs.drop a).take 2), an, au⟩

section
variable {bs : List UInt8} {i f c0 c1 c2 c3 a1 a2 a3 a4 a5 a6 a7 a8 a9 v8 v9 : Nat} {b1 b2 b3 b4 b5 b6 b7 b8 b9 : Bool} {s : List UInt8}
/-- The head. -/
structure Hdr (bs : List UInt8) (i f c0 c1 c2 a6 : Nat) (b6 : Bool) : Prop where
  ok : b6 = false → 12 ≤ bs.length ∧ a6 = 12 ∧ i = beNat (bs.take 2) ∧ f = beNat ((bs.drop 2).take 2) ∧ c0 = beNat ((bs.drop 4).take 2) ∧ c1 = beNat ((bs.drop 6).take 2) ∧ c2 = beNat ((bs.drop 8).take 2)
  no : b6 = true → bs.length < 12
theorem num_step {bs : List UInt8} {n a v a' p : Nat} {b b' : Bool} (e : numR bs n a b = (v, a', b')) (h : (b = false → a = p ∧ p ≤ bs.length) ∧ (b = true → bs.length < p)) :
    ((b' = false → a' = p + n ∧ p + n ≤ bs.length) ∧ (b' = true → bs.length < p + n)) ∧ (b' = false → b = false ∧ v = beNat ((bs.drop p).take n)) := by
  rcases numR_cases e with ⟨rfl, _, rfl, h1⟩ | ⟨rfl, rfl, h1, rfl, rfl⟩
  · refine ⟨⟨fun h => (by cases h), fun _ => ?_⟩, fun h => (by cases h)⟩
    cases b with
    | true => have := h.2 rfl; omega
    | false =>
      have := h.1 rfl
      rcases h1 with h1 | h1
      · cases h1
      · omega
  · obtain ⟨rfl, h2⟩ := h.1 rfl
    exact ⟨⟨fun _ => ⟨rfl, h1⟩, fun h => (by cases h)⟩, fun _ => ⟨rfl, rfl⟩⟩
theorem hdr_of (e1 : numR bs 2 0 false = (i, a1, b1)) (e2 : numR bs 2 a1 b1 = (f, a2, b2)) (e3 : numR bs 2 a2 b2 = (c0, a3, b3)) (e4 : numR bs 2 a3 b3 = (c1, a4, b4)) (e5 : numR bs 2 a4 b4 = (c2, a5, b5)) (e6 : numR bs 2 a5 b5 = (c3, a6, b6)) : Hdr bs i f c0 c1 c2 a6 b6 := by
  obtain ⟨s1, v1⟩ := num_step (p := 0) e1 ⟨fun _ => ⟨rfl, by omega⟩, fun h => (by cases h)⟩
  obtain ⟨s2, v2⟩ := num_step e2 s1
  obtain ⟨s3, v3⟩ := num_step e3 s2
  obtain ⟨s4, v4⟩ := num_step e4 s3
  obtain ⟨s5, v5⟩ := num_step e5 s4
  obtain ⟨s6, v6⟩ := num_step e6 s5
  refine ⟨fun h => ?_, s6.2⟩
  obtain ⟨h5, _⟩ := v6 h
  obtain ⟨h4, w5⟩ := v5 h5
  obtain ⟨h3, w4⟩ := v4 h4
  obtain ⟨h2, w3⟩ := v3 h3
  obtain ⟨h1, w2⟩ := v2 h2
  obtain ⟨_, w1⟩ := v1 h1
  exact ⟨(s6.1 h).2, (s6.1 h).1, w1, w2, w3, w4, w5⟩
theorem dec_bad (h : Hdr bs i f c0 c1 c2 a6 b6) (hg : 0 < f &&& 30720 ∨ c0 ≠ 1 ∨ 32 < c1 + c2) : decode bs = none := by
  unfold decode
  cases b6 with
  | true => rw [if_pos (h.no rfl)]
  | false =>
    obtain ⟨hl, rfl, rfl, rfl, rfl, rfl, rfl⟩ := h.ok rfl
    rw [if_neg (by omega)]
    rcases hg with hg | hg | hg
    · rw [if_pos hg]
    · split <;> first | rfl | rw [if_pos hg]
    · split
      · rfl
      · split <;> first | rfl | rw [if_pos hg]
theorem dec_eq (h : Hdr bs i f c0 c1 c2 a6 b6) (hg1 : ¬ 0 < f &&& 30720) (hg2 : c0 = 1) (hg3 : ¬ 32 < c1 + c2) (h7 : if b6 = true then NameRes none s a7 b7 else NameRes (rdName bs 300 a6 0 0 [] a6) s a7 b7)
    (e8 : numR bs 2 a7 b7 = (v8, a8, b8)) (e9 : numR bs 2 a8 b8 = (v9, a9, b9)) :
    decode bs = match recsSt bs c1 a9 (b9 || decide (v9 ≠ 1)) [] with
      | none => none
      | some (an, a2) => match recsSt bs c2 a2 false [] with
        | none => none
        | some (au, _) => finM ⟨i, decide (0 < f &&& 32768), decide (0 < f &&& 512), decide (0 < f &&& 256), ((f &&& 15 : Nat) : Int), s, v8, an, au⟩ := by
  unfold decode
  cases b6 with
  | true =>
    rw [if_pos (h.no rfl)]
    rw [if_pos rfl] at h7
    obtain ⟨_, rfl⟩ := h7
    rcases numR_cases e8 with ⟨rfl, _, rfl, h8⟩ | ⟨rfl, q8, h8, rfl, rfl⟩
    · rcases numR_cases e9 with ⟨rfl, _, rfl, h9⟩ | ⟨rfl, q9, h9, rfl, rfl⟩
      · rfl
      · cases q9
    · cases q8
  | false =>
    obtain ⟨hl, rfl, rfl, rfl, rfl, rfl, rfl⟩ := h.ok rfl
    rw [if_neg (by omega), if_neg hg1, if_neg (by omega), if_neg hg3]
    rw [if_neg (by simp)] at h7
    cases hr : rdName bs 300 12 0 0 [] 12 with
    | none =>
      rw [hr] at h7
      obtain ⟨_, rfl⟩ := h7
      rcases numR_cases e8 with ⟨rfl, _, rfl, h8⟩ | ⟨rfl, q8, h8, rfl, rfl⟩
      · rcases numR_cases e9 with ⟨rfl, _, rfl, h9⟩ | ⟨rfl, q9, h9, rfl, rfl⟩
        · rfl
        · cases q9
      · cases q8
    | some p =>
      obtain ⟨nm, a⟩ := p
      rw [hr] at h7
      obtain ⟨rfl, rfl, rfl⟩ := h7
      simp only
      rcases numR_cases e8 with ⟨rfl, _, rfl, h8⟩ | ⟨rfl, q8, h8, rfl, rfl⟩
      · rcases numR_cases e9 with ⟨rfl, _, rfl, h9⟩ | ⟨rfl, q9, h9, rfl, rfl⟩
        · rw [if_pos (by simp at h8; omega)]; rfl
        · cases q9
      · rcases numR_cases e9 with ⟨rfl, _, rfl, h9⟩ | ⟨rfl, q9, h9, rfl, rfl⟩
        · rw [if_pos (by simp at h9; omega)]; rfl
        · rw [if_neg (by omega)]
          by_cases hc : beNat ((bs.drop (a7 + 2)).take 2) = 1
          · rw [if_neg (by simp [hc])]
            simp only [recsSt, hc, ne_eq, not_true, decide_false, Bool.or_false, Bool.false_eq_true, if_false, List.nil_append]
            rw [show a7 + 2 + 2 = a7 + 4 by omega]
            cases readRecs bs (beNat ((bs.drop 6).take 2)) (a7 + 4) with
            | none => rfl
            | some q =>
              obtain ⟨q, e⟩ := q
              simp only
              cases readRecs bs (beNat ((bs.drop 8).take 2)) e with
              | none => rfl
              | some q2 => obtain ⟨q2, e2⟩ := q2; rfl
          · rw [if_pos hc]
            simp [recsSt, hc]
end
theorem readRecs_ok {bs : List UInt8} : ∀ {k a : Nat} {rs : List Rec} {e : Nat}, readRecs bs k a = some (rs, e) → rs.length = k ∧ OkA rs ∧ rs.all rightR = true
  | 0, a, rs, e, h => by
    injection h with h; injection h with h1 h2; subst h1
    exact ⟨rfl, OkA.nil, rfl⟩
  | k + 1, a, rs, e, h => by
    rw [readRecs] at h
    cases hr : readRec bs a with
    | none => rw [hr] at h; cases h
    | some p =>
      obtain ⟨r, a1⟩ := p
      rw [hr] at h
      simp only at h
      cases hq : readRecs bs k a1 with
      | none => rw [hq] at h; cases h
      | some q =>
        obtain ⟨q, e1⟩ := q
        rw [hq] at h
        injection h with h; injection h with h1 h2; subst h1
        obtain ⟨i1, i2, i3⟩ := readRecs_ok hq
        obtain ⟨_, j2, j3⟩ := readRec_le hr
        refine ⟨by simp [i1], fun x hx => ?_, by simp [i3, j3]⟩
        rcases List.mem_cons.1 hx with rfl | hx
        · exact j2
        · exact i2 x hx
theorem decode_all {bs : List UInt8} {m : Msg} (h : decode bs = some m) : allM m = true := by
  unfold decode at h
  repeat' (split at h)
  all_goals first | cases h | skip
  all_goals (unfold finM at h; split at h)
  all_goals first | cases h; assumption | cases h

theorem binOp_andN (t : TypeId) (a b : Nat) (ha : a < 9223372036854775808) (hb : b < 9223372036854775808) : binOp .and t (.int .i64 (a : Int)) (.int .i64 (b : Int)) = pure (.int .i64 ((a &&& b : Nat) : Int)) := by
  simp only [binOp, Op.intBits, ne_eq, not_true, ite_false]
  have hbv : ∀ k : Nat, k < 18446744073709551616 → (BitVec.ofInt IntKind.i64.bits (k : Int)).toNat = k := by
    intro k hk
    show (BitVec.ofInt 64 (k : Int)).toNat = k
    simp [BitVec.toNat_ofInt]; omega
  have e : (BitVec.ofInt IntKind.i64.bits (a : Int) &&& BitVec.ofInt IntKind.i64.bits (b : Int)).toNat = a &&& b := by
    rw [BitVec.toNat_and, hbv _ (by omega), hbv _ (by omega)]
  have hle : a &&& b ≤ a := Nat.and_le_left
  rw [e, IntWalk.i64_in _ (by omega)]
theorem R.andN {l : Env} {w : World} {x y : Operand} {t ty : TypeId} {P : Program} {a b : Nat} (hx : ev l x = some (.int .i64 (a : Int))) (hy : ev l y = some (.int .i64 (b : Int))) (ha : a < 9223372036854775808) (hb : b < 9223372036854775808) : Runs P l (.binOp .and t x y ty) w (.int .i64 ((a &&& b : Nat) : Int)) w :=
  R.bin hx hy (binOp_andN t a b ha hb)
theorem R.gtr0 {l : Env} {w : World} {x y : Operand} {t ty : TypeId} {P : Program} {a : Nat} (hx : ev l x = some (.int .i64 (a : Int))) (hy : ev l y = some (.int .i64 0)) : Runs P l (.binOp .gtr t x y ty) w (.bool (decide (0 < a))) w :=
  R.gtr hx hy (by by_cases h : 0 < a <;> simp [h])
end Go.Proofs.YthcpjcgjmdfpjaaDoor
