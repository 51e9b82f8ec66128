/- Words, contracts and walks that several statements share (WordsLlmnr): AnsSpec, Answer, Fit14. -/
import Derived.Test.YthcpjcgjmdfpjaaDoorWordsMsg
namespace Go.Proofs.YthcpjcgjmdfpjaaDoor
open Go Go.RowKit
set_option maxRecDepth 100000

def is4 (a : List UInt8) : Bool := decide (a.take 12 = mappedL)
/-- Is an address of the type that is asked for? -/
def fits (t : Int) (s : LocalV) : Bool := (decide (t = 1) && is4 s.addr) || (decide (t = 28) && !is4 s.addr)
def recL (own : List UInt8) (t : Int) (s : LocalV) : Rec := ⟨own, t, 30, s.addr, [], []⟩
def ansL (own : List UInt8) (t : Int) (l : List LocalV) : List Rec := (l.filter (fits t)).map (recL own t)
/-- The answer. -/
def ansM (own : List UInt8) (M : Msg) (l : List LocalV) : Msg := ⟨M.id, true, false, false, 0, M.qname, M.qtype, ansL own M.qtype l, []⟩
/-- Is it answered? -/
def answers (own : List UInt8) (M : Msg) : Bool := !M.reply && decide (M.qname = own) && decide (own ≠ [])
theorem ansL_snoc {own : List UInt8} {t : Int} {l : List LocalV} {j : Nat} {s : LocalV} (hs : l[j]? = some s) (h : fits t s = true) : ansL own t (l.take (j + 1)) = ansL own t (l.take j) ++ [recL own t s] := by
  have : l.take (j + 1) = l.take j ++ [s] := by rw [List.take_add_one, hs]; rfl
  rw [this]; simp [ansL, h]
theorem ansL_same {own : List UInt8} {t : Int} {l : List LocalV} {j : Nat} {s : LocalV} (hs : l[j]? = some s) (h : fits t s = false) : ansL own t (l.take (j + 1)) = ansL own t (l.take j) := by
  have : l.take (j + 1) = l.take j ++ [s] := by rw [List.take_add_one, hs]; rfl
  rw [this]; simp [ansL, h]
theorem ansL_len (own : List UInt8) (t : Int) (l : List LocalV) : (ansL own t l).length ≤ l.length := by
  unfold ansL; rw [List.length_map]; exact List.length_filter_le _ _
theorem ansL_len2 (own : List UInt8) (t : Int) (l : List LocalV) (j : Nat) : (ansL own t (l.take j)).length ≤ j := by
  have := ansL_len own t (l.take j)
  rw [List.length_take] at this; omega
theorem ansL_mem {own : List UInt8} {t : Int} {l : List LocalV} {r : Rec} (h : r ∈ ansL own t l) : ∃ s ∈ l, fits t s = true ∧ r = recL own t s := by
  obtain ⟨s, hs, rfl⟩ := List.mem_map.1 h
  exact ⟨s, (List.mem_filter.1 hs).1, (List.mem_filter.1 hs).2, rfl⟩
theorem recL_right {own : List UInt8} {t : Int} {s : LocalV} (hn : namesL own = true) (h : fits t s = true) : rightR (recL own t s) = true := by
  unfold fits at h
  simp only [Bool.or_eq_true, Bool.and_eq_true, decide_eq_true_eq, Bool.not_eq_true'] at h
  rcases h with ⟨rfl, h⟩ | ⟨rfl, h⟩
  · unfold is4 at h
    simp only [decide_eq_true_eq] at h
    simp [rightR, recL, hn, h]
  · simp [rightR, recL, hn]
theorem ans_back {own : List UInt8} {M : Msg} {l : List LocalV} (hM : MBack M) (ha : answers own M = true) (hl : l.length ≤ 32) (h16 : ∀ s ∈ l, s.addr.length = 16) : MBack (ansM own M l) := by
  unfold answers at ha
  simp only [Bool.and_eq_true, decide_eq_true_eq] at ha
  obtain ⟨⟨_, hq⟩, _⟩ := ha
  obtain ⟨a1, a2, a3, a4, a5, a6, a7, a8, a9, a10⟩ := all_parts hM.all
  have hn : namesL own = true := hq ▸ a5
  have hs : (splitL own).length ≤ 16 := hq ▸ hM.q
  refine ⟨?_, hM.q, fun r hr => ?_⟩
  · have h1 : (ansL own M.qtype l).all rightR = true := List.all_eq_true.2 fun r hr => by
      obtain ⟨s, _, hf, rfl⟩ := ansL_mem hr
      exact recL_right hn hf
    have h2 := ansL_len own M.qtype l
    have h3 : (ansL own M.qtype l).length ≤ 32 := by omega
    unfold allM ansM
    simp [a1, a2, a5, a6, a7, h1, h3]
  · have hr2 : r ∈ ansL own M.qtype l := by simpa [ansM] using hr
    obtain ⟨s, hsm, _, rfl⟩ := ansL_mem hr2
    exact ⟨h16 s hsm, hs, by show (splitL []).length ≤ 16; decide⟩
/-- What Answer hands back. -/
def AnsRes (own : List UInt8) (M : Msg) (l : List LocalV) (w0 : World) (e : Ending) (w' : World) : Prop :=
  if answers own M = true then ∃ g c bs, e = .returned (.tuple #[.slice (some ⟨g, 0, none⟩) bs.length c, .bool true]) ∧ Src w' (some ⟨g, 0, none⟩) bs.length c bs ∧ (∀ more, decode (bs ++ more) = some (ansM own M l)) ∧ decode bs = some (ansM own M l) ∧ bs.length ≤ 1000000000 ∧ w0.heap.size ≤ g ∧ g < w'.heap.size
  else e = .returned (.tuple #[.slice none 0 0, .bool false])
theorem AnsRes.no {own : List UInt8} {M : Msg} {l : List LocalV} {w0 w' : World} {e : Ending} (h : answers own M = false) (he : e = .returned (.tuple #[.slice none 0 0, .bool false])) : AnsRes own M l w0 e w' := by
  unfold AnsRes; rw [if_neg (by rw [h]; simp)]; exact he
theorem AnsRes.isNo {own : List UInt8} {M : Msg} {l : List LocalV} {w0 w' : World} {e : Ending} (h : AnsRes own M l w0 e w') (ha : answers own M = false) : e = .returned (.tuple #[.slice none 0 0, .bool false]) := by
  unfold AnsRes at h; rw [if_neg (by rw [ha]; simp)] at h; exact h
theorem AnsRes.isYes {own : List UInt8} {M : Msg} {l : List LocalV} {w0 w' : World} {e : Ending} (h : AnsRes own M l w0 e w') (ha : answers own M = true) : ∃ g c bs, e = .returned (.tuple #[.slice (some ⟨g, 0, none⟩) bs.length c, .bool true]) ∧ Src w' (some ⟨g, 0, none⟩) bs.length c bs ∧ (∀ more, decode (bs ++ more) = some (ansM own M l)) ∧ decode bs = some (ansM own M l) ∧ bs.length ≤ 1000000000 ∧ w0.heap.size ≤ g ∧ g < w'.heap.size := by
  unfold AnsRes at h; rw [if_pos ha] at h; exact h
/-- A guarded operation with an effect, in a region that draws its order. -/
theorem AH.effG {P : Program} {Q : Exit → Act → World → Prop} {n : Nat} {l : Env} {w : World} {ops : Array Oper} {fuel : Nat} {listed : Array Bool} {S : World → Prop} (i : Nat) {d : Nat} {q : Op} {t : TypeId} {pos : String} {af : Array Edge} {j s : Nat} {b want : Bool} (hr : Region.ready .any ops listed = [i]) (hi : ops[i]? = some ⟨some d, q, t, pos, af, some (j, want)⟩) (hj : (ops[j]?).bind (·.dst) = some s) (hs : Env.get l s = some (.bool b)) (hne : (b == want) = true)
    (h : OP P Q ⟨some d, q, t, pos, af, none⟩ n l w (fun l' w' => S w' ∧ AH P ops Q S fuel (listed.setIfInBounds i true) n l' w')) : AH P ops Q S (fuel + 1) listed n l w := by
  intro a ha
  refine wpAnyH_all hr (by simp) ?_
  intro i' hi'
  obtain rfl := List.mem_singleton.1 hi'
  have hw : Region.wanted ⟨some d, q, t, pos, af, some (j, want)⟩ (yielded ops a.tmps) = true := by
    simp only [Region.wanted, yielded_of ha hj hs]
    cases b <;> cases want <;> first | rfl | cases hne
  unfold wpOp
  simp only [hi, hw, if_true]
  have key := h a ha (fun a' w' => S w' ∧ wpAnyH P .any ops Q S fuel (listed.setIfInBounds i' true) a' w') (fun l' w' hM a' ha' => ⟨hM.1, hM.2 a' ha'⟩)
  exact .inl key
/-- The place of what is taken of an element. -/
theorem ansL_at {own : List UInt8} {t : Int} : ∀ {l : List LocalV} {j : Nat} {s : LocalV}, l[j]? = some s → fits t s = true → (ansL own t l)[(ansL own t (l.take j)).length]? = some (recL own t s) := by
  intro l
  induction l with
  | nil => intro j s h; simp at h
  | cons x xs ih =>
    intro j s h hf
    cases j with
    | zero =>
      have e : x = s := by simpa using h
      subst e
      simp [ansL, hf]
    | succ j =>
      have := ih (j := j) (by simpa using h) hf
      simp only [ansL] at this
      cases hx : fits t x with
      | true => simpa [ansL, hx] using this
      | false => simpa [ansL, hx] using this
theorem build33_rq (id : Int) (r : Bool) (s : List UInt8) (t : Int) (w : World) : (Instr.build 33 #[(0, .int .i64 id), (1, .bool r), (5, .agg #[sv s, .int .i64 t])]).run Tryd.prog w = .ok (.agg (Msg.cells ⟨id, r, false, false, 0, s, t, [], []⟩ (.slice none 0 0) (.slice none 0 0)).toArray) w := by unfold sv; kernel_rfl
theorem build108_m (w : World) : (Instr.build 108 #[(10, .int .u8 255), (11, .int .u8 255)]).run Tryd.prog w = .ok (.agg (mappedL.map u8v).toArray) w := by kernel_rfl
theorem build27_v4x (a b c d : UInt8) (w : World) : (Instr.build 27 #[(10, .int .u8 255), (11, .int .u8 255), (12, u8v a), (13, u8v b), (14, u8v c), (15, u8v d)]).run Tryd.prog w = .ok (.agg ((mappedL ++ [a, b, c, d]).map u8v).toArray) w := by kernel_rfl
theorem build70_0 {a : List UInt8} (h : a.length = 16) (w : World) : (Instr.build 70 #[(0, .agg (a.map u8v).toArray)]).run Tryd.prog w = .ok (.agg (LocalV.cells ⟨a, false, false⟩).toArray) w := by
  obtain ⟨a0, a1, a2, a3, a4, a5, a6, a7, a8, a9, b0, b1, b2, b3, b4, b5, rfl⟩ := list16 h
  kernel_rfl
theorem slice63_1 {s : LocalV} (h : s.addr.length = 16) (w : World) : (Instr.buildSlice 63 1 #[(0, .agg s.cells.toArray)]).run Tryd.prog w = .ok (.slice (some ⟨w.heap.size, 0, none⟩) 1 1) (w.alloc (.cells s.cells.toArray 70)) := by
  obtain ⟨a, p, q⟩ := s
  obtain ⟨a0, a1, a2, a3, a4, a5, a6, a7, a8, a9, b0, b1, b2, b3, b4, b5, rfl⟩ := list16 h
  kernel_rfl
theorem slice63_2 {s t : LocalV} (h : s.addr.length = 16) (h2 : t.addr.length = 16) (w : World) : (Instr.buildSlice 63 2 #[(0, .agg s.cells.toArray), (1, .agg t.cells.toArray)]).run Tryd.prog w = .ok (.slice (some ⟨w.heap.size, 0, none⟩) 2 2) (w.alloc (.cells (s.cells ++ t.cells).toArray 70)) := by
  obtain ⟨a, p, q⟩ := s
  obtain ⟨a', p', q'⟩ := t
  obtain ⟨a0, a1, a2, a3, a4, a5, a6, a7, a8, a9, b0, b1, b2, b3, b4, b5, rfl⟩ := list16 h
  obtain ⟨c0, c1, c2, c3, c4, c5, c6, c7, c8, c9, d0, d1, d2, d3, d4, d5, rfl⟩ := list16 h2
  kernel_rfl
theorem Sl.one {w : World} {b : Nat} {s : LocalV} (hb : w.heap[b]? = some (.cells s.cells.toArray 70 (0, 0))) : Sl LocalV.cells 18 w (some ⟨b, 0, none⟩) 1 [s] := by
  refine ⟨rfl, fun _ => ⟨b, 0, rfl, fun j a i u hj hi => ?_⟩⟩
  match j, hj with
  | 0, hj =>
    obtain rfl : s = a := by simpa using hj
    exact cell_at hb (by rw [List.getElem?_toArray]; simpa using hi)
theorem Sl.two {w : World} {b : Nat} {s t : LocalV} (h : s.addr.length = 16) (hb : w.heap[b]? = some (.cells (s.cells ++ t.cells).toArray 70 (0, 0))) : Sl LocalV.cells 18 w (some ⟨b, 0, none⟩) 2 [s, t] := by
  refine ⟨rfl, fun _ => ⟨b, 0, rfl, fun j a i u hj hi => ?_⟩⟩
  have hl := LocalV.length h
  match j, hj with
  | 0, hj =>
    obtain rfl : s = a := by simpa using hj
    refine cell_at hb ?_
    rw [List.getElem?_toArray, List.getElem?_append_left (by have := (List.getElem?_eq_some_iff.1 hi).1; omega)]
    simpa using hi
  | 1, hj =>
    obtain rfl : t = a := by simpa using hj
    refine cell_at hb ?_
    rw [List.getElem?_toArray, List.getElem?_append_right (by omega), hl]
    rw [show 0 + 1 * 18 + i - 18 = i by omega]; exact hi
end Go.Proofs.YthcpjcgjmdfpjaaDoor

namespace Go.Proofs.YthcpjcgjmdfpjaaDoor
open Go Go.RowKit
set_option maxRecDepth 100000
set_option maxHeartbeats 4000000

theorem is4_any (a : List UInt8) (w0 : World) (h16 : a.length = 16) : Calls Tryd.prog 35 #[.agg (a.map u8v).toArray] w0 fun e w' => e = .returned (.bool (is4 a)) ∧ Chg (fun _ => False) w0 w' := by
  have hC := Chg.refl (fun _ => False) w0
  refine calls_cw (args := [.agg (a.map u8v).toArray]) Tryd.func35 rfl rfl ?_
  show CW _ _ _ 8 [(0, .agg (a.map u8v).toArray)] w0
  refine CW.rseq ?_
  refine WL.eff rfl (OP.box (by decide) rfl ?_)
  intro w1 hc_w1 hs_w1 hB1
  obtain ⟨b1, he_b1⟩ : ∃ b, b = w0.heap.size := ⟨_, rfl⟩
  rw [← he_b1] at hB1 ⊢
  have hB1 : BA w1 b1 _ := hB1
  have hC := hC.trans hc_w1
  have hz_w1 := hc_w1.size
  refine WL.op (by decide) (R.assign rfl) ?_
  refine WL.next ?_
  refine CW.rseq ?_
  refine WL.op (by decide) (R.sliceArr (lv := none) (hv := some (.int .i64 12)) (l1 := 0) (h1 := 12) Tryd.underlying27 sz5 rfl rfl rfl (by kernel_rfl) (by decide)) ?_
  refine WL.op (by decide) (R.toArr Tryd.underlying108 rfl (by decide)) ?_
  refine WL.op (by decide) (R.loadAgg1 (cs := (a.take 12).map u8v) Tryd.underlying108 rfl (by rw [List.length_map, List.length_take, h16]; exact sz108) rfl (fun j u hj => cell_at hB1 (by rw [Nat.zero_add, List.getElem?_toArray]; exact take_map hj))) ?_
  refine WL.op (by decide) (R.build (parts := [(10, _), (11, _)]) (vals := [(10, _), (11, _)]) rfl build108_m) ?_
  refine WL.op (by decide) (R.eql108 (by rw [List.length_take, h16]; rfl) rfl rfl rfl rfl) ?_
  refine WL.op (by decide) (R.assign rfl) ?_
  refine WL.next ?_
  refine CW.ret ?_
  exact EW.ret1 (.inl rfl) rfl rfl ⟨rfl, hC⟩
theorem v4_any (a b c d : UInt8) (w0 : World) : Calls Tryd.prog 51 #[u8v a, u8v b, u8v c, u8v d] w0 fun e w' => e = .returned (.agg ((mappedL ++ [a, b, c, d]).map u8v).toArray) ∧ Chg (fun _ => False) w0 w' := by
  have hC := Chg.refl (fun _ => False) w0
  have hz16 : zero16.length = 16 := rfl
  have hv16 : (mappedL ++ [a, b, c, d]).length = 16 := rfl
  refine calls_cw (args := [u8v a, u8v b, u8v c, u8v d]) Tryd.func51 rfl rfl ?_
  show CW _ _ _ 14 [(0, u8v a), (1, u8v b), (2, u8v c), (3, u8v d)] w0
  refine CW.rseq ?_
  refine WL.eff rfl (OP.allocA (by decide) ?_)
  intro w1 hc_w1 hs_w1 hB8
  obtain ⟨b8, he_b8⟩ : ∃ b, b = w0.heap.size := ⟨_, rfl⟩
  rw [← he_b8] at hB8 ⊢
  have hC := hC.trans hc_w1
  have hz_w1 := hc_w1.size
  refine WL.next ?_
  refine CW.rseq ?_
  refine WL.op (by decide) (R.move rfl) ?_
  refine WL.op (by decide) (R.move rfl) ?_
  refine WL.op (by decide) (R.move rfl) ?_
  refine WL.op (by decide) (R.move rfl) ?_
  refine WL.op (by decide) (R.build (parts := [(10, _), (11, _), (12, _), (13, _), (14, _), (15, _)]) (vals := [(10, _), (11, _), (12, _), (13, _), (14, _), (15, _)]) rfl (fun w => build27_v4x a b c d w)) ?_
  refine WL.eff rfl (OP.storeA (by assumption) (by first | rfl | assumption) rfl rfl hB8 ?_)
  intro w2 hc_w2 hs_w2 hB8
  have hC := hC.thenB hc_w2 (by omega)
  refine WL.next ?_
  refine CW.ret ?_
  exact EW.retC (.inl rfl) rfl rfl (cs := (mappedL ++ [a, b, c, d]).map u8v) Tryd.underlying27 rfl sz27 (fun j u hj => cell_at hB8 (by rw [List.getElem?_toArray]; exact hj)) ⟨rfl, hC⟩
theorem answer_any (own : List UInt8) (A : Option Addr) (m c : Nat) (l : List LocalV) (A2 : Option Addr) (m2 c2 : Nat) (bs : List UInt8) (M : Msg) (w0 : World) (hL : Sl LocalV.cells 18 w0 A m l) (h16 : ∀ s ∈ l, s.addr.length = 16) (hl32 : l.length ≤ 32) (hS : Src w0 A2 m2 c2 bs) (hgl : ∀ g o, A2 = some ⟨g, o, none⟩ → g < w0.heap.size) (hbl : bs.length ≤ 1000000000) (hdec : decode bs = some M) (hM : MBack M) (hG : Glob w0) :
    Calls Tryd.prog 34 #[sv own, .slice A m c, .slice A2 m2 c2] w0 fun e w' => Chg (fun _ => False) w0 w' ∧ AnsRes own M l w0 e w' := by
  have hC := Chg.refl (fun _ => False) w0
  have hz16 : zero16.length = 16 := rfl
  have hlm := hL.1
  have hml := hS.len
  refine calls_cw (args := [sv own, .slice A m c, .slice A2 m2 c2]) Tryd.func34 rfl rfl ?_
  show CW _ _ _ 84 [(0, sv own), (1, .slice A m c), (2, .slice A2 m2 c2)] w0
  refine CW.rseq ?_
  refine WL.op (by decide) (R.assign rfl) ?_
  refine WL.op (by decide) (R.assign rfl) ?_
  refine WL.next ?_
  refine CW.rseq ?_
  refine WL.op (by decide) (R.move rfl) ?_
  refine WL.eff rfl (OP.call (by decide) Tryd.func27 (by kernel_rfl) (by kernel_rfl) rfl (decode_any _ _ _ _ _ (hS.keep0 hC) hgl (by omega) (hG.keep0 hC)) ?_)
  rintro ed w1 ⟨hc_w1, hres⟩
  rw [hdec] at hres
  obtain ⟨vM, rfl, vaM, vbM, rfl, hvaM, hvbM, hoaM, hobM⟩ := hres
  obtain ⟨AaM, caM, rfl, _⟩ := hvaM.form
  obtain ⟨AbM, cbM, rfl, _⟩ := hvbM.form
  have hlenM := len_dec hdec
  refine ⟨_, rfl, ?_⟩
  have hC := hC.trans hc_w1
  have hz_w1 := hc_w1.size
  have hK1 : Chg (fun _ => False) w1 w1 := Chg.refl _ _
  refine WL.op (by decide) (R.move rfl) ?_
  refine WL.op (by decide) (R.extract rfl rfl) ?_
  refine WL.op (by decide) (R.extract rfl rfl) ?_
  refine WL.eff rfl (OP.allocM (by decide) ?_)
  intro w2 hc_w2 hs_w2 hB8
  obtain ⟨b8, he_b8⟩ : ∃ b, b = w1.heap.size := ⟨_, rfl⟩
  rw [← he_b8] at hB8 ⊢
  have hC := hC.trans hc_w2
  have hK1 := hK1.trans hc_w2
  have hz_w2 := hc_w2.size
  refine WL.eff rfl (OP.storeM rfl rfl hB8 ?_)
  intro w3 hc_w3 hs_w3 hB8
  have hC := hC.thenB hc_w3 (by omega)
  have hK1 := hK1.thenB hc_w3 (by omega)
  refine WL.op (by decide) (R.assign rfl) ?_
  refine WL.next ?_
  refine CW.seq ?_
  refine CW.rseq ?_
  refine WL.op (by decide) (R.move rfl) ?_
  refine WL.op (by decide) (R.neq rfl rfl (decide_eq_false (by decide))) ?_
  refine WL.op (by decide) (R.move rfl) ?_
  refine WL.gop (by decide) rfl rfl rfl (FA33_1 rfl) ?_
  refine WL.gop (by decide) rfl rfl rfl (R.load (v := .bool M.reply) Tryd.underlying4 rfl rfl (cell_at hB8 rfl)) ?_
  cases hrep : M.reply
  · skip
    skip
    refine WL.op (by decide) (R.pickF rfl rfl) ?_
    refine WL.op (by decide) (R.move rfl) ?_
    refine WL.gop (by decide) rfl rfl rfl (FA33_5 rfl) ?_
    refine WL.gop (by decide) rfl rfl rfl (FA25_0 rfl) ?_
    refine WL.gop (by decide) rfl rfl rfl (R.load Tryd.underlying9 rfl rfl (cell_at hB8 rfl)) ?_
    refine WL.gop (by decide) rfl rfl rfl (R.move rfl) ?_
    refine WL.gsplit _ (by decide) rfl rfl rfl (R.neqStr (a := M.qname) (b := own) rfl rfl) (fun h1 => ?_) (fun h1 => ?_)
    · skip
      refine WL.op (by decide) (R.pickF rfl rfl) ?_
      refine WL.op (by decide) (R.move rfl) ?_
      refine WL.pass (by decide) rfl rfl rfl ?_
      refine WL.pass (by decide) rfl rfl rfl ?_
      refine WL.op (by decide) (R.pickT rfl rfl) ?_
      refine WL.next ?_
      refine CW.condT rfl ?_
      refine CW.rseq ?_
      refine WL.op (by decide) (R.assign rfl) ?_
      refine WL.op (by decide) (R.assign rfl) ?_
      refine WL.next ?_
      refine CW.ret ?_
      refine EW.thenRet ?_
      exact EW.ret2 (.inl rfl) rfl rfl rfl ⟨hC, AnsRes.no (by simp [answers, *]) rfl⟩
    · skip
      refine WL.op (by decide) (R.pickF rfl rfl) ?_
      refine WL.op (by decide) (R.move rfl) ?_
      refine WL.gop (by decide) rfl rfl rfl (R.move rfl) ?_
      refine WL.gsplit _ (by decide) rfl rfl rfl (R.eqlStr (a := own) (b := []) rfl rfl) (fun h2 => ?_) (fun h2 => ?_)
      · skip
        refine WL.op (by decide) (R.pickF rfl rfl) ?_
        refine WL.next ?_
        refine CW.condT rfl ?_
        refine CW.rseq ?_
        refine WL.op (by decide) (R.assign rfl) ?_
        refine WL.op (by decide) (R.assign rfl) ?_
        refine WL.next ?_
        refine CW.ret ?_
        refine EW.thenRet ?_
        exact EW.ret2 (.inl rfl) rfl rfl rfl ⟨hC, AnsRes.no (by simp [answers, *]) rfl⟩
      · skip
        refine WL.op (by decide) (R.pickF rfl rfl) ?_
        refine WL.next ?_
        refine CW.condF rfl ?_
        refine CW.skip ?_
        refine EW.next ?_
        refine CW.rseq ?_
        refine WL.op (by decide) (FA33_0 rfl) ?_
        refine WL.op (by decide) (R.load Tryd.underlying3 rfl rfl (cell_at hB8 rfl)) ?_
        refine WL.op (by decide) (FA33_5 rfl) ?_
        refine WL.op (by decide) (R.loadQ rfl hB8) ?_
        refine WL.op (by decide) (R.build (parts := [(0, _), (1, _), (5, _)]) (vals := [(0, _), (1, _), (5, _)]) rfl (fun w => build33_rq _ true _ _ w)) ?_
        refine WL.eff rfl (OP.allocM (by decide) ?_)
        intro w4 hc_w4 hs_w4 hB10
        obtain ⟨b10, he_b10⟩ : ∃ b, b = w3.heap.size := ⟨_, rfl⟩
        rw [← he_b10] at hB10 ⊢
        have hB8 := hc_w4.at hB8 (fun e => e)
        have hC := hC.trans hc_w4
        have hK1 := hK1.trans hc_w4
        have hz_w4 := hc_w4.size
        refine WL.eff rfl (OP.storeM rfl rfl hB10 ?_)
        intro w5 hc_w5 hs_w5 hB10
        have hB8 := hc_w5.at hB8 (fun e => by omega)
        have hC := hC.thenB hc_w5 (by omega)
        have hK1 := hK1.thenB hc_w5 (by omega)
        refine WL.next ?_
        refine CW.seq ?_
        refine CW.rseq ?_
        obtain ⟨base, he_base⟩ : ∃ b, b = w5.heap.size := ⟨_, rfl⟩
        have hqo : M.qname = own := Decidable.not_not.1 (by assumption)
        have hon : ¬ own = [] := by assumption
        have hans : answers own M = true := by simp [answers, hrep, hqo, hon]
        refine WL.op (by decide) (R.move rfl) ?_
        refine WL.op (by decide) (R.lenSlice rfl Tryd.underlying63 rfl) ?_
        refine WL.op (by decide) (R.move rfl) ?_
        refine WL.next ?_
        refine CW.block ?_
        refine CW.loopK [0, 8, 10, 41, 42, 43] (fun k le wr => Chg (fun _ => False) w0 wr ∧ base ≤ wr.heap.size ∧ ∃ (j : Nat) (jj : Int) (A1 : Option Addr) (c1 : Nat), j + k = l.length ∧ jj = (j : Int) ∧ le = [(0, sv own), (8, .pointer (some ⟨b8, 0, none⟩)), (10, .pointer (some ⟨b10, 0, none⟩)), (41, .slice A m c), (42, .int .i64 m), (43, .int .i64 jj)] ∧ BM wr b8 M (.slice AaM M.ans.length caM) (.slice AbM M.auth.length cbM) ∧ BM wr b10 (ansM own M (l.take j)) (.slice A1 (ansL own M.qtype (l.take j)).length c1) (.slice none 0 0) ∧ RBuf wr base (.slice A1 (ansL own M.qtype (l.take j)).length c1) (ansL own M.qtype (l.take j))) (l.length) ?_ ?_
        · exact ⟨hC, by omega, 0, 0, none, 0, by omega, rfl, rfl, hB8, hB10, RBuf.nil _ _⟩
        · rintro k le wr ⟨hC, hbw, j, jj, A1, c1, hk, rfl, rfl, hB8, hB10, hRB⟩
          have hK : Chg (fun _ => False) wr wr := Chg.refl _ _
          have hll := ansL_len2 own M.qtype l j
          have hz_hC := hC.size
          have hz_hK := hK.size
          refine CW.rseq ?_
          refine WL.lssS (by decide) rfl rfl (fun h3 => ?_) (fun h3 => ?_)
          · skip
            refine WL.next ?_
            refine CW.seq ?_
            refine CW.condT rfl ?_
            refine CW.skip ?_
            refine EW.next ?_
            refine CW.seq ?_
            refine CW.block ?_
            refine CW.rseq ?_
            obtain ⟨s, hs⟩ : ∃ s, l[j]? = some s := ⟨l[j]'(by omega), List.getElem?_eq_getElem _⟩
            obtain ⟨hlm2, g, o, hA, hcell⟩ := (hL.kept hC).at hs
            subst hA
            have hs16 := h16 s (List.mem_of_getElem? hs)
            refine WL.op (by decide) (R.indexAddr1 (i := j) Tryd.underlying63 sz70 rfl rfl (by omega) (by omega)) ?_
            refine WL.op (by decide) (R.loadLoAt hs16 rfl hcell) ?_
            refine WL.eff rfl (OP.allocLo (by decide) ?_)
            intro w6 hc_w6 hs_w6 hB12
            obtain ⟨b12, he_b12⟩ : ∃ b, b = wr.heap.size := ⟨_, rfl⟩
            rw [← he_b12] at hB12 ⊢
            have hB8 := hc_w6.at hB8 (fun e => e)
            have hB10 := hc_w6.at hB10 (fun e => e)
            have hC := hC.trans hc_w6
            have hK := hK.trans hc_w6
            have hz_w6 := hc_w6.size
            refine WL.eff rfl (OP.storeLo (by assumption) (by first | rfl | assumption) rfl rfl hB12 ?_)
            intro w7 hc_w7 hs_w7 hB12
            have hB8 := hc_w7.at hB8 (fun e => by omega)
            have hB10 := hc_w7.at hB10 (fun e => by omega)
            have hC := hC.thenB hc_w7 (by omega)
            have hK := hK.thenB hc_w7 (by omega)
            refine WL.next ?_
            refine CW.rseq ?_
            refine WL.op (by decide) (R.move rfl) ?_
            refine WL.op (by decide) (FA33_5 rfl) ?_
            refine WL.op (by decide) (FA25_1 rfl) ?_
            refine WL.op (by decide) (R.load Tryd.underlying3 rfl rfl (cell_at hB8 rfl)) ?_
            refine WL.op (by decide) (FA70_0 rfl) ?_
            refine WL.op (by decide) (R.loadLoA (by assumption) rfl hB12) ?_
            refine WL.op (by decide) (R.build (parts := [(0, _), (1, _), (2, _), (3, _)]) (vals := [(0, _), (1, _), (2, _), (3, _)]) rfl (fun w => build57_0123 own _ 30 hs16 w)) ?_
            refine WL.eff rfl (OP.allocR (by decide) ?_)
            intro w8 hc_w8 hs_w8 hB13
            obtain ⟨b13, he_b13⟩ : ∃ b, b = w7.heap.size := ⟨_, rfl⟩
            rw [← he_b13] at hB13 ⊢
            have hB8 := hc_w8.at hB8 (fun e => e)
            have hB10 := hc_w8.at hB10 (fun e => e)
            have hB12 := hc_w8.at hB12 (fun e => e)
            have hC := hC.trans hc_w8
            have hK := hK.trans hc_w8
            have hz_w8 := hc_w8.size
            refine WL.eff rfl (OP.storeR rfl rfl (by first | assumption | rfl) (by first | assumption | rfl) hB13 ?_)
            intro w9 hc_w9 hs_w9 hB13
            have hB8 := hc_w9.at hB8 (fun e => by omega)
            have hB10 := hc_w9.at hB10 (fun e => by omega)
            have hB12 := hc_w9.at hB12 (fun e => by omega)
            have hC := hC.thenB hc_w9 (by omega)
            have hK := hK.thenB hc_w9 (by omega)
            refine WL.next ?_
            refine CW.rseq ?_
            have hZ : Chg (fun _ => False) w9 w9 := Chg.refl _ _
            refine WL.cut 21 (fun le w' => Chg (fun _ => False) w9 w' ∧ le = [(0, sv own), (8, .pointer (some ⟨b8, 0, none⟩)), (10, .pointer (some ⟨b10, 0, none⟩)), (13, .pointer (some ⟨b13, 0, none⟩)), (41, .slice (some ⟨g, o, none⟩) m c), (42, .int .i64 m), (43, .int .i64 (j : Int)), (74, .bool (fits M.qtype s))]) ?_ ?_
            ·
              refine WL.op (by decide) (FA33_5 rfl) ?_
              refine WL.op (by decide) (FA25_1 rfl) ?_
              refine WL.op (by decide) (R.load Tryd.underlying3 rfl rfl (cell_at hB8 rfl)) ?_
              refine WL.eqlS (by decide) rfl rfl (fun h4 => ?_) (fun h4 => ?_)
              · skip
                refine WL.op (by decide) (R.move rfl) ?_
                refine WL.gop (by decide) rfl rfl rfl (FA70_0 rfl) ?_
                refine WL.gop (by decide) rfl rfl rfl (R.loadLoA (by assumption) rfl hB12) ?_
                refine WL.geff rfl rfl rfl (OP.call (by decide) Tryd.func35 (by kernel_rfl) (by kernel_rfl) rfl (is4_any _ _ (by assumption)) ?_)
                rintro ed w10 ⟨rfl, hc_w10⟩
                have hB8 := hc_w10.at hB8 (fun e => e)
                have hB10 := hc_w10.at hB10 (fun e => e)
                have hB12 := hc_w10.at hB12 (fun e => e)
                have hB13 := hc_w10.at hB13 (fun e => e)
                have hC := hC.trans hc_w10
                have hK := hK.trans hc_w10
                have hZ := hZ.trans hc_w10
                have hz_w10 := hc_w10.size
                cases h4 : is4 s.addr
                · skip
                  refine ⟨_, rfl, ?_⟩
                  refine WL.op (by decide) (R.pickT rfl rfl) ?_
                  refine WL.op (by decide) (R.move rfl) ?_
                  refine WL.gop (by decide) rfl rfl rfl (FA33_5 rfl) ?_
                  refine WL.gop (by decide) rfl rfl rfl (FA25_1 rfl) ?_
                  refine WL.gop (by decide) rfl rfl rfl (R.load Tryd.underlying3 rfl rfl (cell_at hB8 rfl)) ?_
                  refine WL.gsplit _ (by decide) rfl rfl rfl (R.eqlD rfl rfl) (fun h5 => ?_) (fun h5 => ?_)
                  · skip
                    refine WL.gop (by decide) rfl rfl rfl (R.move rfl) ?_
                    refine WL.gop (by decide) rfl rfl rfl (FA70_0 rfl) ?_
                    refine WL.gop (by decide) rfl rfl rfl (R.loadLoA (by assumption) rfl hB12) ?_
                    refine WL.geff rfl rfl rfl (OP.call (by decide) Tryd.func35 (by kernel_rfl) (by kernel_rfl) rfl (is4_any _ _ (by assumption)) ?_)
                    rintro ed w11 ⟨rfl, hc_w11⟩
                    have hB8 := hc_w11.at hB8 (fun e => e)
                    have hB10 := hc_w11.at hB10 (fun e => e)
                    have hB12 := hc_w11.at hB12 (fun e => e)
                    have hB13 := hc_w11.at hB13 (fun e => e)
                    have hC := hC.trans hc_w11
                    have hK := hK.trans hc_w11
                    have hZ := hZ.trans hc_w11
                    have hz_w11 := hc_w11.size
                    cases h4b : is4 s.addr
                    · skip
                      refine ⟨_, rfl, ?_⟩
                      refine WL.gop (by decide) rfl rfl rfl (R.not rfl) ?_
                      refine WL.gop (by decide) rfl rfl rfl (R.pickT rfl rfl) ?_
                      refine WL.op (by decide) (R.pickF rfl rfl) ?_
                      exact WL.cutEnd [0, 8, 10, 13, 41, 42, 43, 74] ⟨hZ, by rw [show fits M.qtype s = true from by simp_all]; rfl⟩
                    · skip
                      refine ⟨_, rfl, ?_⟩
                      refine WL.gop (by decide) rfl rfl rfl (R.not rfl) ?_
                      refine WL.gop (by decide) rfl rfl rfl (R.pickT rfl rfl) ?_
                      refine WL.op (by decide) (R.pickF rfl rfl) ?_
                      exact WL.cutEnd [0, 8, 10, 13, 41, 42, 43, 74] ⟨hZ, by rw [show fits M.qtype s = false from by simp_all]; rfl⟩
                  · skip
                    refine WL.gop (by decide) rfl rfl rfl (R.move rfl) ?_
                    refine WL.pass (by decide) rfl rfl rfl ?_
                    refine WL.pass (by decide) rfl rfl rfl ?_
                    refine WL.pass (by decide) rfl rfl rfl ?_
                    refine WL.pass (by decide) rfl rfl rfl ?_
                    refine WL.gop (by decide) rfl rfl rfl (R.pickF rfl rfl) ?_
                    refine WL.op (by decide) (R.pickF rfl rfl) ?_
                    exact WL.cutEnd [0, 8, 10, 13, 41, 42, 43, 74] ⟨hZ, by rw [show fits M.qtype s = false from by simp_all [fits]]; rfl⟩
                · skip
                  refine ⟨_, rfl, ?_⟩
                  refine WL.op (by decide) (R.pickT rfl rfl) ?_
                  refine WL.op (by decide) (R.move rfl) ?_
                  refine WL.pass (by decide) rfl rfl rfl ?_
                  refine WL.pass (by decide) rfl rfl rfl ?_
                  refine WL.pass (by decide) rfl rfl rfl ?_
                  refine WL.pass (by decide) rfl rfl rfl ?_
                  refine WL.pass (by decide) rfl rfl rfl ?_
                  refine WL.passU (by decide) rfl rfl ?_
                  refine WL.passU (by decide) rfl rfl ?_
                  refine WL.passU (by decide) rfl rfl ?_
                  refine WL.passU (by decide) rfl rfl ?_
                  refine WL.pass (by decide) rfl rfl rfl ?_
                  refine WL.op (by decide) (R.pickT rfl rfl) ?_
                  exact WL.cutEnd [0, 8, 10, 13, 41, 42, 43, 74] ⟨hZ, by rw [show fits M.qtype s = true from by simp_all [fits]]; rfl⟩
              · skip
                refine WL.op (by decide) (R.move rfl) ?_
                refine WL.pass (by decide) rfl rfl rfl ?_
                refine WL.pass (by decide) rfl rfl rfl ?_
                refine WL.pass (by decide) rfl rfl rfl ?_
                refine WL.op (by decide) (R.pickF rfl rfl) ?_
                refine WL.op (by decide) (R.move rfl) ?_
                refine WL.gop (by decide) rfl rfl rfl (FA33_5 rfl) ?_
                refine WL.gop (by decide) rfl rfl rfl (FA25_1 rfl) ?_
                refine WL.gop (by decide) rfl rfl rfl (R.load Tryd.underlying3 rfl rfl (cell_at hB8 rfl)) ?_
                refine WL.gsplit _ (by decide) rfl rfl rfl (R.eqlD rfl rfl) (fun h6 => ?_) (fun h6 => ?_)
                · skip
                  refine WL.gop (by decide) rfl rfl rfl (R.move rfl) ?_
                  refine WL.gop (by decide) rfl rfl rfl (FA70_0 rfl) ?_
                  refine WL.gop (by decide) rfl rfl rfl (R.loadLoA (by assumption) rfl hB12) ?_
                  refine WL.geff rfl rfl rfl (OP.call (by decide) Tryd.func35 (by kernel_rfl) (by kernel_rfl) rfl (is4_any _ _ (by assumption)) ?_)
                  rintro ed w12 ⟨rfl, hc_w12⟩
                  have hB8 := hc_w12.at hB8 (fun e => e)
                  have hB10 := hc_w12.at hB10 (fun e => e)
                  have hB12 := hc_w12.at hB12 (fun e => e)
                  have hB13 := hc_w12.at hB13 (fun e => e)
                  have hC := hC.trans hc_w12
                  have hK := hK.trans hc_w12
                  have hZ := hZ.trans hc_w12
                  have hz_w12 := hc_w12.size
                  cases h4b : is4 s.addr
                  · skip
                    refine ⟨_, rfl, ?_⟩
                    refine WL.gop (by decide) rfl rfl rfl (R.not rfl) ?_
                    refine WL.gop (by decide) rfl rfl rfl (R.pickT rfl rfl) ?_
                    refine WL.op (by decide) (R.pickF rfl rfl) ?_
                    exact WL.cutEnd [0, 8, 10, 13, 41, 42, 43, 74] ⟨hZ, by rw [show fits M.qtype s = true from by simp_all [fits]]; rfl⟩
                  · skip
                    refine ⟨_, rfl, ?_⟩
                    refine WL.gop (by decide) rfl rfl rfl (R.not rfl) ?_
                    refine WL.gop (by decide) rfl rfl rfl (R.pickT rfl rfl) ?_
                    refine WL.op (by decide) (R.pickF rfl rfl) ?_
                    exact WL.cutEnd [0, 8, 10, 13, 41, 42, 43, 74] ⟨hZ, by rw [show fits M.qtype s = false from by simp_all [fits]]; rfl⟩
                · skip
                  refine WL.gop (by decide) rfl rfl rfl (R.move rfl) ?_
                  refine WL.pass (by decide) rfl rfl rfl ?_
                  refine WL.pass (by decide) rfl rfl rfl ?_
                  refine WL.pass (by decide) rfl rfl rfl ?_
                  refine WL.pass (by decide) rfl rfl rfl ?_
                  refine WL.gop (by decide) rfl rfl rfl (R.pickF rfl rfl) ?_
                  refine WL.op (by decide) (R.pickF rfl rfl) ?_
                  exact WL.cutEnd [0, 8, 10, 13, 41, 42, 43, 74] ⟨hZ, by rw [show fits M.qtype s = false from by simp_all [fits]]; rfl⟩
            · rintro le wz13 ⟨hc_wz13, rfl⟩
              have hB8 := hc_wz13.at hB8 (fun e => e)
              have hB10 := hc_wz13.at hB10 (fun e => e)
              have hB12 := hc_wz13.at hB12 (fun e => e)
              have hB13 := hc_wz13.at hB13 (fun e => e)
              have hC := hC.trans hc_wz13
              have hK := hK.trans hc_wz13
              have hZ := hZ.trans hc_wz13
              have hz_wz13 := hc_wz13.size
              cases hfit : fits M.qtype s
              · skip
                have hN1 := ansL_same (own := own) hs hfit
                refine WL.next ?_
                refine CW.condF rfl ?_
                refine CW.skip ?_
                refine EW.inNormal ?_
                refine EW.next ?_
                refine CW.region ?_
                refine WL.op (by decide) (R.add rfl rfl (by omega)) ?_
                refine WL.op (by decide) (R.move rfl) ?_
                refine WL.nil ?_
                exact EW.roundK [0, 8, 10, 41, 42, 43] (k - 1) (by omega) ⟨hC, by omega, j + 1, (j : Int) + 1, A1, c1, by omega, by omega, rfl, hB8, by rw [hN1]; exact hB10, by rw [hN1]; exact hRB.kept hK (fun _ _ e => e)⟩
              · skip
                have hN1 := ansL_snoc (own := own) hs hfit
                refine WL.next ?_
                refine CW.condT rfl ?_
                refine CW.region ?_
                refine WL.op (by decide) (FA33_6 rfl) ?_
                refine WL.op (by decide) (R.load Tryd.underlying31 rfl rfl (cell_at hB10 rfl)) ?_
                refine WL.op (by decide) (R.loadRB (by first | assumption | rfl) rfl hB13) ?_
                refine WL.eff rfl (OP.buildSliceR (by decide) rfl hs16 ?_)
                intro w14 hc_w14 hs_w14 hN
                have hB8 := hc_w14.at hB8 (fun e => e)
                have hB10 := hc_w14.at hB10 (fun e => e)
                have hB12 := hc_w14.at hB12 (fun e => e)
                have hB13 := hc_w14.at hB13 (fun e => e)
                have hC := hC.trans hc_w14
                have hK := hK.trans hc_w14
                have hZ := hZ.trans hc_w14
                have hz_w14 := hc_w14.size
                refine WL.eff rfl (OP.appendR (by decide) rfl rfl (hRB.kept hK (fun _ _ e => e)) hs16 hN (by omega) (by omega) ?_)
                intro v2 w15 hRn hMv
                have hc_w15 : Chg (fun k => base ≤ k) w14 w15 := (Chg.moved hMv).mono (fun k _ e => (hRB.lt k e.symm).1)
                clear hMv
                obtain ⟨A1, c1, rfl, _⟩ := hRn.sl.form
                have hRB := hRn
                clear hRn
                have hB8 := hc_w15.at hB8 (fun e => by omega)
                have hB10 := hc_w15.at hB10 (fun e => by omega)
                have hC := hC.then hc_w15 (fun _ _ e => by omega)
                have hz_w15 := hc_w15.size
                refine WL.op (by decide) (FA33_6 rfl) ?_
                refine WL.eff rfl (OP.storeAns (rs := ansL own M.qtype (l.take j) ++ [recL own M.qtype s]) rfl rfl hB10 ?_)
                intro w16 hc_w16 hs_w16 hB10
                have hB8 := hc_w16.at hB8 (fun e => by omega)
                have hC := hC.thenB hc_w16 (by omega)
                have hRB := hRB.kept hc_w16 (fun k e1 e2 => by have := hRB.lt k e1; omega)
                refine WL.nil ?_
                refine EW.inNormal ?_
                refine EW.next ?_
                refine CW.region ?_
                refine WL.op (by decide) (R.add rfl rfl (by omega)) ?_
                refine WL.op (by decide) (R.move rfl) ?_
                refine WL.nil ?_
                exact EW.roundK [0, 8, 10, 41, 42, 43] (k - 1) (by omega) ⟨hC, by omega, j + 1, (j : Int) + 1, A1, c1, by omega, by omega, rfl, hB8, by rw [hN1]; exact hB10, by rw [hN1]; exact hRB⟩
          · skip
            refine WL.next ?_
            refine CW.seq ?_
            refine CW.condF rfl ?_
            refine CW.exit ?_
            have hT : l.take j = l := List.take_of_length_le (by omega)
            rw [hT] at hB10 hRB
            have hRBs := hRB.sl
            have hback := ans_back hM hans (by omega) h16
            refine EW.thenExit ?_
            refine EW.thenExit ?_
            refine EW.inHere ?_
            refine EW.next ?_
            refine CW.rseq ?_
            refine WL.op (by decide) (R.loadM rfl hB10) ?_
            refine WL.eff rfl (OP.call (by decide) Tryd.func24 (by kernel_rfl) (by kernel_rfl) rfl (encode_src _ _ _ ⟨_, _, rfl, (hRBs.keep0 hK), (RSl.nil _)⟩ (hback)) ?_)
            rintro ed w17 ⟨gE, ceE, bsE, rfl, hbsE, hBufE, hSrcE, hmoreE, hdecE, hblE, hgeE, hglE, hc_w17⟩
            refine ⟨_, rfl, ?_⟩
            have hB8 := hc_w17.at hB8 (fun e => e)
            have hB10 := hc_w17.at hB10 (fun e => e)
            have hC := hC.trans hc_w17
            have hK := hK.trans hc_w17
            have hz_w17 := hc_w17.size
            have hK17 : Chg (fun _ => False) w17 w17 := Chg.refl _ _
            refine WL.op (by decide) (R.assign rfl) ?_
            refine WL.op (by decide) (R.assign rfl) ?_
            refine WL.next ?_
            refine CW.ret ?_
            exact EW.ret2 (.inl rfl) rfl rfl rfl ⟨hC, (by unfold AnsRes; rw [if_pos hans]; exact ⟨_, _, _, rfl, (hSrcE.keep0 hK17), hmoreE, hdecE, hblE, by omega, by omega⟩)⟩
  · skip
    skip
    refine WL.op (by decide) (R.pickF rfl rfl) ?_
    refine WL.op (by decide) (R.move rfl) ?_
    refine WL.pass (by decide) rfl rfl rfl ?_
    refine WL.pass (by decide) rfl rfl rfl ?_
    refine WL.pass (by decide) rfl rfl rfl ?_
    refine WL.pass (by decide) rfl rfl rfl ?_
    refine WL.pass (by decide) rfl rfl rfl ?_
    refine WL.op (by decide) (R.pickT rfl rfl) ?_
    refine WL.op (by decide) (R.move rfl) ?_
    refine WL.pass (by decide) rfl rfl rfl ?_
    refine WL.pass (by decide) rfl rfl rfl ?_
    refine WL.op (by decide) (R.pickT rfl rfl) ?_
    refine WL.next ?_
    refine CW.condT rfl ?_
    refine CW.rseq ?_
    refine WL.op (by decide) (R.assign rfl) ?_
    refine WL.op (by decide) (R.assign rfl) ?_
    refine WL.next ?_
    refine CW.ret ?_
    refine EW.thenRet ?_
    exact EW.ret2 (.inl rfl) rfl rfl rfl ⟨hC, AnsRes.no (by simp [answers, *]) rfl⟩
end Go.Proofs.YthcpjcgjmdfpjaaDoor

namespace Go.Proofs.YthcpjcgjmdfpjaaDoor
open Go Go.RowKit
set_option maxRecDepth 100000
set_option maxHeartbeats 4000000

theorem fit14_any (w0 : World) (hG : Glob w0) : Calls Tryd.prog 32 #[] w0 fun e w' => e = .returned (.bool true) ∧ Chg (fun _ => False) w0 w' := by
  have hC := Chg.refl (fun _ => False) w0
  refine calls_cw (args := []) Tryd.func32 rfl rfl ?_
  show CW _ _ _ 47 [] w0
  refine CW.rseq ?_
  refine WL.op (by decide) (R.assign rfl) ?_
  refine WL.next ?_
  refine CW.rseq ?_
  refine WL.eff rfl (OP.call (by decide) Tryd.func51 (by kernel_rfl) (by kernel_rfl) rfl (v4_any 1 2 3 4 _) ?_)
  rintro ed w1 ⟨rfl, hc_w1⟩
  refine ⟨_, rfl, ?_⟩
  have hC := hC.trans hc_w1
  have hz_w1 := hc_w1.size
  refine WL.op (by decide) (R.build (parts := [(0, _)]) (vals := [(0, _)]) rfl (fun w => build70_0 (a := mappedL ++ [1, 2, 3, 4]) rfl w)) ?_
  refine WL.eff rfl (OP.buildSlice (parts := [(0, _)]) (vals := [(0, _)]) (ty := 70) (by decide) rfl (fun w => slice63_1 (s := ⟨mappedL ++ [1, 2, 3, 4], false, false⟩) rfl w) ?_)
  intro w2 hc_w2 hs_w2 hN
  have hC := hC.trans hc_w2
  have hz_w2 := hc_w2.size
  have hSl := Sl.one hN
  have hK2 : Chg (fun _ => False) w2 w2 := Chg.refl _ _
  refine WL.op (by decide) (R.build (parts := [(0, _), (1, _)]) (vals := [(0, _), (1, _)]) rfl (fun w => build25_2 [97] 1 w)) ?_
  refine WL.op (by decide) (R.build (parts := [(0, _), (5, _)]) (vals := [(0, _), (5, _)]) rfl (fun w => build33_05 7 [97] 1 w)) ?_
  refine WL.eff rfl (OP.call (by decide) Tryd.func24 (by kernel_rfl) (by kernel_rfl) rfl (encode_src _ _ _ ⟨_, _, rfl, (RSl.nil _), (RSl.nil _)⟩ (MBack.quest (by decide) (by decide) (by kernel_rfl) (by decide))) ?_)
  rintro ed w3 ⟨gE, ceE, bsE, rfl, hbsE, hBufE, hSrcE, hmoreE, hdecE, hblE, hgeE, hglE, hc_w3⟩
  refine ⟨_, rfl, ?_⟩
  have hC := hC.trans hc_w3
  have hK2 := hK2.trans hc_w3
  have hz_w3 := hc_w3.size
  have hK3 : Chg (fun _ => False) w3 w3 := Chg.refl _ _
  refine WL.eff rfl (OP.call (by decide) Tryd.func34 (by kernel_rfl) (by kernel_rfl) rfl (answer_any [97] _ _ _ [⟨mappedL ++ [1, 2, 3, 4], false, false⟩] _ _ _ _ _ _ (hSl.keep0 hK2) (fun s hs => by rw [List.mem_singleton.1 hs]; rfl) (by decide) (hSrcE.keep0 hK3) (by rintro _ _ ⟨⟩; omega) hblE hdecE (MBack.quest (by decide) (by decide) (by kernel_rfl) (by decide)) (hG.keep0 hC)) ?_)
  rintro ed w4 ⟨hc_w4, hres⟩
  obtain ⟨gA, ceA, bsA, rfl, hSrcA, hmoreA, hdecA, hblA, hgeA, hglA⟩ := hres.isYes (by kernel_rfl)
  refine ⟨_, rfl, ?_⟩
  have hC := hC.trans hc_w4
  have hK2 := hK2.trans hc_w4
  have hK3 := hK3.trans hc_w4
  have hz_w4 := hc_w4.size
  have hK4 : Chg (fun _ => False) w4 w4 := Chg.refl _ _
  refine WL.op (by decide) (R.move rfl) ?_
  refine WL.op (by decide) (R.extract rfl rfl) ?_
  refine WL.op (by decide) (R.extract rfl rfl) ?_
  refine WL.op (by decide) (R.assign rfl) ?_
  refine WL.op (by decide) (R.assign rfl) ?_
  refine WL.next ?_
  refine CW.rseq ?_
  refine WL.op (by decide) (R.move rfl) ?_
  refine WL.eff rfl (OP.call (by decide) Tryd.func27 (by kernel_rfl) (by kernel_rfl) rfl (decode_any _ _ _ _ _ (hSrcA.keep0 hK4) (by rintro _ _ ⟨⟩; omega) (by omega) (hG.keep0 hC)) ?_)
  rintro ed w5 ⟨hc_w5, hres⟩
  rw [hdecA] at hres
  obtain ⟨vD, rfl, vaD, vbD, rfl, hvaD, hvbD, hoaD, hobD⟩ := hres
  obtain ⟨AaD, caD, rfl, _⟩ := hvaD.form
  obtain ⟨AbD, cbD, rfl, _⟩ := hvbD.form
  have hlenD := len_dec hdecA
  refine ⟨_, rfl, ?_⟩
  have hC := hC.trans hc_w5
  have hK2 := hK2.trans hc_w5
  have hK3 := hK3.trans hc_w5
  have hK4 := hK4.trans hc_w5
  have hz_w5 := hc_w5.size
  have hK5 : Chg (fun _ => False) w5 w5 := Chg.refl _ _
  refine WL.op (by decide) (R.move rfl) ?_
  refine WL.op (by decide) (R.extract rfl rfl) ?_
  refine WL.op (by decide) (R.extract rfl rfl) ?_
  refine WL.eff rfl (OP.allocM (by decide) ?_)
  intro w6 hc_w6 hs_w6 hB3
  obtain ⟨b3, he_b3⟩ : ∃ b, b = w5.heap.size := ⟨_, rfl⟩
  rw [← he_b3] at hB3 ⊢
  have hC := hC.trans hc_w6
  have hK2 := hK2.trans hc_w6
  have hK3 := hK3.trans hc_w6
  have hK4 := hK4.trans hc_w6
  have hK5 := hK5.trans hc_w6
  have hz_w6 := hc_w6.size
  refine WL.eff rfl (OP.storeM rfl rfl hB3 ?_)
  intro w7 hc_w7 hs_w7 hB3
  have hC := hC.thenB hc_w7 (by omega)
  have hK2 := hK2.thenB hc_w7 (by omega)
  have hK3 := hK3.thenB hc_w7 (by omega)
  have hK4 := hK4.thenB hc_w7 (by omega)
  have hK5 := hK5.thenB hc_w7 (by omega)
  refine WL.op (by decide) (R.assign rfl) ?_
  refine WL.next ?_
  refine CW.rseq ?_
  obtain ⟨hr16, _, gr, orr, hAr, hcr⟩ := (hvaD.keep0 hK5).at (j := 0) (r := recL [97] 1 ⟨mappedL ++ [1, 2, 3, 4], false, false⟩) (by kernel_rfl)
  subst hAr
  refine WL.op (by decide) (R.move rfl) ?_
  refine WL.op (by decide) (R.move rfl) ?_
  refine WL.gop (by decide) rfl rfl rfl (R.move rfl) ?_
  refine WL.gop (by decide) rfl rfl rfl (R.eql rfl rfl (decide_eq_true (rfl))) ?_
  refine WL.op (by decide) (R.pickT rfl rfl) ?_
  refine WL.op (by decide) (R.move rfl) ?_
  refine WL.gop (by decide) rfl rfl rfl (FA33_1 rfl) ?_
  refine WL.gop (by decide) rfl rfl rfl (R.load (v := .bool true) Tryd.underlying4 rfl rfl (cell_at hB3 rfl)) ?_
  refine WL.op (by decide) (R.pickT rfl rfl) ?_
  refine WL.op (by decide) (R.move rfl) ?_
  refine WL.gop (by decide) rfl rfl rfl (FA33_6 rfl) ?_
  refine WL.gop (by decide) rfl rfl rfl (R.load Tryd.underlying31 rfl rfl (cell_at hB3 rfl)) ?_
  refine WL.gop (by decide) rfl rfl rfl (R.lenSlice rfl Tryd.underlying31 rfl) ?_
  refine WL.gop (by decide) rfl rfl rfl (R.eql rfl rfl (decide_eq_true (by kernel_rfl))) ?_
  refine WL.op (by decide) (R.pickT rfl rfl) ?_
  refine WL.op (by decide) (R.move rfl) ?_
  refine WL.gop (by decide) rfl rfl rfl (FA33_6 rfl) ?_
  refine WL.gop (by decide) rfl rfl rfl (R.load Tryd.underlying31 rfl rfl (cell_at hB3 rfl)) ?_
  refine WL.gop (by decide) rfl rfl rfl (R.indexAddr1 (i := 0) Tryd.underlying31 sz57 rfl rfl rfl (Nat.le_of_ble_eq_true (by kernel_rfl))) ?_
  refine WL.gop (by decide) rfl rfl rfl (FA57_3 rfl) ?_
  refine WL.gop (by decide) rfl rfl rfl (R.loadRA hr16 rfl hcr) ?_
  refine WL.geff rfl rfl rfl (OP.call (by decide) Tryd.func35 (by kernel_rfl) (by kernel_rfl) rfl (is4_any _ _ hr16) ?_)
  rintro ed w8 ⟨rfl, hc_w8⟩
  rw [show is4 (recL [97] 1 ⟨mappedL ++ [1, 2, 3, 4], false, false⟩).addr = true from by kernel_rfl]
  refine ⟨_, rfl, ?_⟩
  have hB3 := hc_w8.at hB3 (fun e => e)
  have hC := hC.trans hc_w8
  have hK2 := hK2.trans hc_w8
  have hK3 := hK3.trans hc_w8
  have hK4 := hK4.trans hc_w8
  have hK5 := hK5.trans hc_w8
  have hz_w8 := hc_w8.size
  refine WL.op (by decide) (R.pickT rfl rfl) ?_
  refine WL.op (by decide) (R.move rfl) ?_
  refine WL.geff rfl rfl rfl (OP.call (by decide) Tryd.func33 (by kernel_rfl) (by kernel_rfl) rfl (name_any _ _) ?_)
  rintro ed w9 ⟨rfl, hc_w9⟩
  refine ⟨_, rfl, ?_⟩
  have hB3 := hc_w9.at hB3 (fun e => e)
  have hC := hC.trans hc_w9
  have hK2 := hK2.trans hc_w9
  have hK3 := hK3.trans hc_w9
  have hK4 := hK4.trans hc_w9
  have hK5 := hK5.trans hc_w9
  have hz_w9 := hc_w9.size
  refine WL.gop (by decide) rfl rfl rfl (R.eqlStrC rfl rfl (decide_eq_true (by kernel_rfl))) ?_
  refine WL.op (by decide) (R.pickT rfl rfl) ?_
  refine WL.op (by decide) (R.assign rfl) ?_
  refine WL.next ?_
  refine CW.ret ?_
  exact EW.ret1 (.inl rfl) rfl rfl ⟨rfl, hC⟩
end Go.Proofs.YthcpjcgjmdfpjaaDoor
