/- Words, contracts and walks that several statements share (WordsMsg): Flat, Places, MsgOps. -/
import Derived.Test.YthcpjcgjmdfpjaaDoorCoreE
import Derived.Test.YthcpjcgjmdfpjaaDoorCoreF
namespace Go.Proofs.YthcpjcgjmdfpjaaDoor
open Go Go.RowKit
set_option maxRecDepth 100000

/-- A name's bytes where nothing of it stands already. -/
def nmB : List (List UInt8) → List UInt8
  | [] => [0]
  | x :: xs => byteOf (x.length : Nat) :: x ++ nmB xs
theorem wr_flat : ∀ (ls : List (List UInt8)) (b : List UInt8) (at_ : At), (∀ x ∈ ls, Lab x) → (∀ e ∈ at_, (joinL ls).length < e.1.length) → (wrLabels ls b at_).1 = b ++ nmB ls
  | [], b, at_, _, _ => rfl
  | x :: xs, b, at_, hl, hg => by
    unfold wrLabels
    have hno : lookA at_ (joinL (x :: xs)) = none := by
      cases hlk : lookA at_ (joinL (x :: xs)) with
      | none => rfl
      | some p => have := hg _ (lookA_mem hlk); simp at this
    rw [hno]
    simp only
    have hsh := joinL_shorter (xs := xs) (hl x (by simp)).1
    rw [wr_flat xs _ _ (fun y hy => hl y (by simp [hy])) (by
      intro e he
      split at he
      · rcases List.mem_append.1 he with h | h
        · have := hg e h; omega
        · rw [List.mem_singleton.1 h]; exact hsh
      · have := hg e he; omega)]
    simp [nmB]
theorem nmB_length : ∀ (ls : List (List UInt8)), (nmB ls).length = wlen ls + 1
  | [] => rfl
  | x :: xs => by simp [nmB, wlen, nmB_length xs]; omega
theorem RN_flat {ls : List (List UInt8)} (hl : ∀ x ∈ ls, Lab x) : ∀ (p q : List UInt8), RN (p ++ nmB ls ++ q) p.length ls 0 (p.length + (nmB ls).length) := by
  induction ls with
  | nil =>
    intro p q
    have : (p ++ [0] ++ q)[p.length]? = some 0 := by rw [List.append_assoc, List.getElem?_append_right (Nat.le_refl _)]; simp
    exact RN.zero this
  | cons x xs ih =>
    intro p q
    have hx := hl x (by simp)
    have h := ih (fun y hy => hl y (by simp [hy])) (p ++ [byteOf (x.length : Nat)] ++ x) q
    have e0 : p ++ [byteOf (x.length : Nat)] ++ x ++ nmB xs ++ q = p ++ nmB (x :: xs) ++ q := by simp [nmB]
    have e1 : (p ++ [byteOf (x.length : Nat)] ++ x).length = p.length + 1 + x.length := by simp; omega
    have e2 : p.length + (nmB (x :: xs)).length = p.length + 1 + x.length + (nmB xs).length := by simp [nmB]; omega
    rw [e0, e1] at h
    rw [e2]
    have hc : (p ++ nmB (x :: xs) ++ q)[p.length]? = some (byteOf (x.length : Nat)) := by
      rw [List.append_assoc, List.getElem?_append_right (Nat.le_refl _)]; simp [nmB]
    have hd : ((p ++ nmB (x :: xs) ++ q).drop (p.length + 1)).take x.length = x := by
      have : p ++ nmB (x :: xs) ++ q = (p ++ [byteOf (x.length : Nat)]) ++ (x ++ (nmB xs ++ q)) := by simp [nmB]
      rw [this, List.drop_left' (by simp), List.take_left' rfl]
    exact RN.lab hc (byteOf_small (by have := hx.2.1; omega)) hx.1 hx.2.1 hd h

/-! ### Capitals -/
def Cap (c d : UInt8) : Prop := d = c ∨ (97 ≤ c.toNat ∧ c.toNat ≤ 122 ∧ d.toNat + 32 = c.toNat)
theorem cap_low {c d : UInt8} (h : Cap c d) : low1 d = low1 c := by
  rcases h with rfl | ⟨h1, h2, h3⟩
  · rfl
  · have e1 : low1 d = d + 32 := (low1_big (by omega) (by omega)).1
    have e2 : low1 c = c := low1_not (by omega)
    rw [e1, e2]
    apply UInt8.toNat_inj.1
    rw [UInt8.toNat_add]
    have : (32 : UInt8).toNat = 32 := rfl
    omega
theorem cap_small {c d : UInt8} (h : Cap c d) (hc : c.toNat < 97) : d = c := by
  rcases h with h | h
  · exact h
  · omega
def CapL (b d : List UInt8) : Prop := d.length = b.length ∧ ∀ (j : Nat) c, b[j]? = some c → ∃ e, d[j]? = some e ∧ Cap c e
theorem lower_cap {x y : List UInt8} (h : CapL x y) : lower y = lower x := by
  apply List.ext_getElem?
  intro j
  unfold lower
  rw [List.getElem?_map, List.getElem?_map]
  cases hj : x[j]? with
  | none =>
    have := List.getElem?_eq_none_iff.1 hj
    rw [List.getElem?_eq_none (by have := h.1; omega)]
  | some c =>
    obtain ⟨e, he, hc⟩ := h.2 j c hj
    rw [he]; simp [cap_low hc]
theorem RN.cap {b d : List UInt8} (hbd : CapL b d) {a e h : Nat} {ls : List (List UInt8)} (hr : RN b a ls h e) : h = 0 → ∃ ms, RN d a ms 0 e ∧ ms.map lower = ls.map lower ∧ wlen ms = wlen ls ∧ ms.length = ls.length := by
  induction hr with
  | zero h0 =>
    intro _
    obtain ⟨e, he, hc⟩ := hbd.2 _ _ h0
    obtain rfl := cap_small hc (by decide)
    exact ⟨[], .zero he, rfl, rfl, rfl⟩
  | @lab a h e x ls c hc hn h0 h63 hx hr ih =>
    intro hh
    subst hh
    obtain ⟨ms, h1, h2, h3, h4⟩ := ih rfl
    obtain ⟨e', he, hcc⟩ := hbd.2 _ _ hc
    obtain rfl := cap_small hcc (by omega)
    have hlt := take_len hx
    have hyl : ((d.drop (a + 1)).take x.length).length = x.length := by
      rw [List.length_take, List.length_drop, hbd.1]; omega
    have hcap : CapL x ((d.drop (a + 1)).take x.length) := by
      refine ⟨hyl, fun j c hj => ?_⟩
      have hjl := (List.getElem?_eq_some_iff.1 hj).1
      rw [← hx, List.getElem?_take_of_lt hjl, List.getElem?_drop] at hj
      obtain ⟨e2, he2, hc2⟩ := hbd.2 _ _ hj
      exact ⟨e2, by rw [List.getElem?_take_of_lt hjl, List.getElem?_drop]; exact he2, hc2⟩
    refine ⟨(d.drop (a + 1)).take x.length :: ms, RN.lab he (by rw [hyl]; exact hn) (by omega) (by omega) (by rw [hyl]) (by rw [hyl]; exact h1), ?_, ?_, ?_⟩
    · simp [h2, lower_cap hcap]
    · simp [wlen, h3, hyl]
    · simp [h4]
  | ptr => intro hh; cases hh

theorem part12 {b d : List UInt8} (h : d.take 12 = b.take 12) (k n : Nat) (hk : k + n ≤ 12) : (d.drop k).take n = (b.drop k).take n := by
  have key : ∀ l : List UInt8, (l.drop k).take n = ((l.take 12).drop k).take n := by
    intro l
    rw [List.drop_take, List.take_take, Nat.min_eq_left (by omega)]
  rw [key, key b, h]
/-- Bytes that differ in the question's name alone, which is read alike. -/
theorem decode_same {b d nm : List UInt8} {e : Nat} {m : Msg} (hl : d.length = b.length) (hh : d.take 12 = b.take 12) (hn : rdName b 300 12 0 0 [] 12 = some (nm, e)) (hn' : rdName d 300 12 0 0 [] 12 = some (nm, e)) (hd : d.drop e = b.drop e)
    (h : decode b = some m) (ha : m.ans = []) (hu : m.auth = []) : decode d = some m := by
  have p0 : d.take 2 = b.take 2 := by have := part12 hh 0 2 (by omega); simpa using this
  have p2 := part12 hh 2 2 (by omega)
  have p4 := part12 hh 4 2 (by omega)
  have p6 := part12 hh 6 2 (by omega)
  have p8 := part12 hh 8 2 (by omega)
  have q0 : (d.drop e).take 2 = (b.drop e).take 2 := by rw [hd]
  have q2 : (d.drop (e + 2)).take 2 = (b.drop (e + 2)).take 2 := by rw [← List.drop_drop, ← List.drop_drop, hd]
  unfold decode at h ⊢
  rw [hl, p0, p2, p4, p6, p8, hn']
  rw [hn] at h
  split at h
  · cases h
  rename_i g1
  rw [if_neg g1]
  split at h
  · cases h
  rename_i g2
  rw [if_neg g2]
  split at h
  · cases h
  rename_i g3
  rw [if_neg g3]
  split at h
  · cases h
  rename_i g4
  rw [if_neg g4]
  simp only at h ⊢
  split at h
  · cases h
  rename_i g5
  rw [if_neg g5, q2, q0]
  split at h
  · cases h
  rename_i g6
  rw [if_neg g6]
  split at h
  · cases h
  rename_i an a2 hr1
  split at h
  · cases h
  rename_i au a3 hr2
  have hm : finM _ = some m := h
  have hm2 := h
  unfold finM at hm2
  split at hm2
  · have hm3 := Option.some.inj hm2
    have e1 : an = [] := by rw [← hm3] at ha; exact ha
    have e2 : au = [] := by rw [← hm3] at hu; exact hu
    subst e1 e2
    have k1 := (readRecs_ok hr1).1
    have k2 := (readRecs_ok hr2).1
    rw [← k1, ← k2]
    simp only [List.length_nil, readRecs]
    exact h
  · cases hm2
end Go.Proofs.YthcpjcgjmdfpjaaDoor

namespace Go.Proofs.YthcpjcgjmdfpjaaDoor
open Go Go.RowKit
set_option maxRecDepth 100000

theorem lookA_app {k : List UInt8} {p : Nat} : ∀ {at_ : At} (more : At), lookA at_ k = some p → lookA (at_ ++ more) k = some p
  | [], _, h => by cases h
  | (s, q) :: r, more, h => by
    rw [List.cons_append]
    unfold lookA at h ⊢
    split
    · rename_i e; rw [if_pos e] at h; exact h
    · rename_i e; rw [if_neg e] at h; exact lookA_app more h
theorem wr_keeps : ∀ (ls : List (List UInt8)) (b : List UInt8) (at_ : At), ∃ more, (wrLabels ls b at_).2 = at_ ++ more
  | [], b, at_ => ⟨[], by simp [wrLabels]⟩
  | x :: xs, b, at_ => by
    unfold wrLabels
    cases lookA at_ (joinL (x :: xs)) with
    | some p => exact ⟨[], by simp⟩
    | none =>
      simp only
      obtain ⟨more, h⟩ := wr_keeps xs (b ++ [byteOf (x.length : Nat)] ++ x) (if b.length < 16384 then at_ ++ [(joinL (x :: xs), b.length)] else at_)
      rw [h]
      split
      · exact ⟨[(joinL (x :: xs), b.length)] ++ more, by simp⟩
      · exact ⟨more, rfl⟩
theorem wr_has {s b : List UInt8} (hb : b.length < 16384) : lookA (wrName s (b, [])).2 s = some b.length := by
  have hj := join_split s
  cases hs : splitL s with
  | nil => exact absurd hs (splitL_ne s)
  | cons x xs =>
    rw [hs] at hj
    unfold wrName
    rw [hs]
    unfold wrLabels
    simp only [lookA]
    rw [if_pos hb, hj]
    obtain ⟨more, h⟩ := wr_keeps xs (b ++ [byteOf (x.length : Nat)] ++ x) ([] ++ [(s, b.length)])
    rw [h]
    exact lookA_app more (by simp [lookA])
theorem wr_there {s b : List UInt8} {at_ : At} {p : Nat} (h : lookA at_ s = some p) : wrName s (b, at_) = (b ++ beN 2 ((49152 ||| p : Nat) : Int), at_) := by
  have hj := join_split s
  cases hs : splitL s with
  | nil => exact absurd hs (splitL_ne s)
  | cons x xs =>
    rw [hs] at hj
    unfold wrName
    rw [hs]
    unfold wrLabels
    rw [hj, h]
def placeR (s : List UInt8) : Rec := ⟨s, 5, 0, zero16, s, []⟩
theorem rec_there {s b : List UInt8} {at_ : At} {p : Nat} (h : lookA at_ s = some p) : ∃ b', wrRec (placeR s) (b, at_) = (b', at_) ∧ b'.length = b.length + 14 := by
  have h1 : wrName (placeR s).name (b, at_) = (b ++ beN 2 ((49152 ||| p : Nat) : Int), at_) := wr_there h
  have h2 : ∀ b2, wrBody (placeR s) b2 at_ = (b2 ++ beN 2 ((49152 ||| p : Nat) : Int), at_) := by
    intro b2
    rw [body3 (by simp [placeR])]
    have : wrName (placeR s).text (b2, at_) = (b2 ++ beN 2 ((49152 ||| p : Nat) : Int), at_) := wr_there h
    rw [this]
  unfold wrRec
  simp only [h1, h2]
  exact ⟨_, rfl, by rw [setN_length]; simp [wrHead_length, beN_length]⟩
theorem recs_there {s : List UInt8} {at_ : At} {p : Nat} (h : lookA at_ s = some p) : ∀ (k : Nat) (b : List UInt8), ∃ b', wrRecs (List.replicate k (placeR s)) (b, at_) = (b', at_) ∧ b'.length = b.length + 14 * k
  | 0, b => ⟨b, rfl, rfl⟩
  | k + 1, b => by
    obtain ⟨b1, h1, h2⟩ := rec_there (b := b) h
    obtain ⟨b2, h3, h4⟩ := recs_there h k b1
    refine ⟨b2, ?_, by omega⟩
    rw [List.replicate_succ]
    show wrRecs (List.replicate k (placeR s)) (wrRec (placeR s) (b, at_)) = _
    rw [h1, h3]
theorem name_len {s b : List UInt8} (hn : namesL s = true) : (wrName s (b, [])).1 = b ++ nmB (splitL s) := wr_flat _ _ _ (names_lab hn) (fun _ h => by cases h)
theorem nm_length (s : List UInt8) : (nmB (splitL s)).length = s.length + 2 := by rw [nmB_length, wlen_split]
/-- A question's bytes. -/
theorem enc_quest {m : Msg} (hn : namesL m.qname = true) (ha : m.ans = []) (hu : m.auth = []) : enc m = (headNums m).flatMap (beN 2) ++ nmB (splitL m.qname) ++ (beN 2 m.qtype ++ beN 2 1) := by
  unfold enc
  rw [ha, hu, name_len hn]
  simp [wrRecs]
theorem head_len (m : Msg) : ((headNums m).flatMap (beN 2)).length = 12 := by simp [headNums, beN_length]
/-- A message whose records' names all are the question's. -/
theorem places_len {s : List UInt8} (k : Nat) (hn : namesL s = true) : (enc ⟨0, false, false, false, 0, s, 1, List.replicate k (placeR s), []⟩).length = 12 + s.length + 2 + 4 + 14 * k := by
  obtain ⟨hd, hhd⟩ : ∃ hd, hd = (headNums ⟨0, false, false, false, 0, s, 1, List.replicate k (placeR s), []⟩).flatMap (beN 2) := ⟨_, rfl⟩
  have hl : hd.length = 12 := by rw [hhd]; exact head_len _
  obtain ⟨at1, hat⟩ : ∃ a, a = (wrName s (hd, [])).2 := ⟨_, rfl⟩
  have hlk : lookA at1 s = some hd.length := by rw [hat]; exact wr_has (by omega)
  obtain ⟨b2, h1, h2⟩ := recs_there hlk k (hd ++ nmB (splitL s) ++ beN 2 1 ++ beN 2 1)
  have he : enc ⟨0, false, false, false, 0, s, 1, List.replicate k (placeR s), []⟩ = (wrRecs [] (wrRecs (List.replicate k (placeR s)) ((wrName s (hd, [])).1 ++ beN 2 1 ++ beN 2 1, (wrName s (hd, [])).2))).1 := by rw [hhd]; rfl
  rw [he, ← hat, name_len hn, h1]
  show b2.length = _
  rw [h2]
  simp only [List.length_append, hl, nm_length, beN_length]
  omega

/-! ### Capitals on the way -/
theorem take_capL {b d : List UInt8} {k : Nat} (h : CapL b d) (heq : ∀ (j : Nat) c, j < k → b[j]? = some c → d[j]? = some c) : d.take k = b.take k := by
  apply List.ext_getElem?
  intro j
  by_cases hj : j < k
  · rw [List.getElem?_take_of_lt hj, List.getElem?_take_of_lt hj]
    cases hb : b[j]? with
    | none => have := List.getElem?_eq_none_iff.1 hb; rw [List.getElem?_eq_none (by have := h.1; omega)]
    | some c => rw [heq j c hj hb]
  · rw [List.getElem?_eq_none (by rw [List.length_take]; omega), List.getElem?_eq_none (by rw [List.length_take]; omega)]
theorem drop_capL {b d : List UInt8} {k : Nat} (h : CapL b d) (heq : ∀ (j : Nat) c, k ≤ j → b[j]? = some c → d[j]? = some c) : d.drop k = b.drop k := by
  apply List.ext_getElem?
  intro j
  rw [List.getElem?_drop, List.getElem?_drop]
  cases hb : b[k + j]? with
  | none => have := List.getElem?_eq_none_iff.1 hb; rw [List.getElem?_eq_none (by have := h.1; omega)]
  | some c => rw [heq (k + j) c (by omega) hb]
/-- A question whose name has capitals on the way is read as it was. -/
theorem caps_read {m : Msg} {d : List UInt8} (hb : MBack m) (ha : m.ans = []) (hu : m.auth = []) (hc : CapL (enc m) d) (heq : ∀ (j : Nat) c, j < 13 ∨ 12 + m.qname.length + 1 ≤ j → (enc m)[j]? = some c → d[j]? = some c) : decode d = some m := by
  have hq := (all_parts hb.all).2.2.2.2.1
  have he := enc_quest hq ha hu
  have hhl := head_len m
  have hlab := names_lab hq
  have hw := wlen_split m.qname
  have hl := names_len hq
  have hrn := RN_flat hlab ((headNums m).flatMap (beN 2)) (beN 2 m.qtype ++ beN 2 1)
  rw [← he, hhl, nm_length] at hrn
  obtain ⟨ms, h1, h2, h3, h4⟩ := hrn.cap hc rfl
  have hgood : namesL (joinL ([] ++ (splitL m.qname).map lower)) = true := by rw [List.nil_append, names_lower hq, join_split]; exact hq
  have hs16 := hb.q
  have r1 := rd_of_RN hrn 300 0 0 [] 12 (by omega) (by omega) (by omega) hgood
  have r2 := rd_of_RN h1 300 0 0 [] 12 (by omega) (by omega) (by omega) (by rw [h2]; exact hgood)
  rw [h2] at r2
  exact decode_same hc.1 (take_capL hc (fun j c hj hb => heq j c (.inl (by omega)) hb)) r1 r2 (drop_capL hc (fun j c hj hb => heq j c (.inr (by rw [if_pos rfl] at hj; omega)) hb)) (back0 hb) ha hu
end Go.Proofs.YthcpjcgjmdfpjaaDoor

namespace Go.Proofs.YthcpjcgjmdfpjaaDoor
open Go Go.RowKit
set_option maxRecDepth 100000

section
variable {l : Env} {w : World} {x y : Operand} {t ty : TypeId} {P : Program}
theorem R.maskN (k : Nat) {n m r : Int} (hx : ev l x = some (.int .i64 n)) (hy : ev l y = some (.int .i64 m)) (hk : k ≤ 62) (hm : m = ((2 ^ k - 1 : Nat) : Int)) (h : n % ((2 ^ k : Nat) : Int) = r) : Runs P l (.binOp .and t x y ty) w (.int .i64 r) w := by
  subst h
  exact R.mask k hx hy hk hm rfl
end
theorem build33_5 (s : List UInt8) (t : Int) (w : World) : (Instr.build 33 #[(5, .agg #[sv s, .int .i64 t])]).run Tryd.prog w = .ok (.agg (Msg.cells ⟨0, false, false, false, 0, s, t, [], []⟩ (.slice none 0 0) (.slice none 0 0)).toArray) w := by unfold sv; kernel_rfl
theorem build33_056 (id : Int) (s : List UInt8) (t : Int) (A : Option Addr) (m c : Nat) (r : Rec) (w : World) : (Instr.build 33 #[(0, .int .i64 id), (5, .agg #[sv s, .int .i64 t]), (6, .slice A m c)]).run Tryd.prog w = .ok (.agg (Msg.cells ⟨id, false, false, false, 0, s, t, [r], []⟩ (.slice A m c) (.slice none 0 0)).toArray) w := by unfold sv; kernel_rfl
theorem build27_v4 (b : UInt8) (w : World) : (Instr.build 27 #[(10, .int .u8 255), (11, .int .u8 255), (15, u8v b)]).run Tryd.prog w = .ok (.agg ((mappedL ++ [0, 0, 0, b]).map u8v).toArray) w := by kernel_rfl
theorem build57_013 (s : List UInt8) (t : Int) {a : List UInt8} (h : a.length = 16) (w : World) : (Instr.build 57 #[(0, sv s), (1, .int .i64 t), (3, .agg (a.map u8v).toArray)]).run Tryd.prog w = .ok (Rec.val ⟨s, t, 0, a, [], []⟩) w := by
  obtain ⟨a0, a1, a2, a3, a4, a5, a6, a7, a8, a9, b0, b1, b2, b3, b4, b5, rfl⟩ := list16 h
  unfold sv; kernel_rfl
theorem build57_0123 (s : List UInt8) (t ttl : Int) {a : List UInt8} (h : a.length = 16) (w : World) : (Instr.build 57 #[(0, sv s), (1, .int .i64 t), (2, .int .i64 ttl), (3, .agg (a.map u8v).toArray)]).run Tryd.prog w = .ok (Rec.val ⟨s, t, ttl, a, [], []⟩) w := by
  obtain ⟨a0, a1, a2, a3, a4, a5, a6, a7, a8, a9, b0, b1, b2, b3, b4, b5, rfl⟩ := list16 h
  unfold sv; kernel_rfl
theorem build57_014 (s u : List UInt8) (t : Int) (w : World) : (Instr.build 57 #[(0, sv s), (1, .int .i64 t), (4, sv u)]).run Tryd.prog w = .ok (Rec.val ⟨s, t, 0, zero16, u, []⟩) w := by unfold sv; kernel_rfl
theorem build57_015 (s u : List UInt8) (t : Int) (w : World) : (Instr.build 57 #[(0, sv s), (1, .int .i64 t), (5, sv u)]).run Tryd.prog w = .ok (Rec.val ⟨s, t, 0, zero16, [], u⟩) w := by unfold sv; kernel_rfl
theorem RSl.one {w : World} {b c : Nat} {r : Rec} (hb : w.heap[b]? = some (.cells r.cells.toArray 57 (0, 0))) (h : r.addr.length = 16) (hc : 1 ≤ c) : RSl w (.slice (some ⟨b, 0, none⟩) 1 c) [r] := by
  refine ⟨fun x hx => by rw [List.mem_singleton.1 hx]; exact h, some ⟨b, 0, none⟩, c, rfl, hc, fun _ => ⟨b, 0, rfl, fun j u hj => ?_⟩⟩
  rw [Nat.zero_add]
  exact cell_at hb (by rw [List.getElem?_toArray]; simpa [flatR] using hj)
/-- An append of one record, told by how many there are. -/
theorem appended_rec {w' : World} {base j : Nat} {v' : Value} {rs : List Rec} {r : Rec} (hl : rs.length = j) (hN : RBuf w' base v' (rs ++ [r])) : ∃ A c, v' = .slice A (j + 1) c := by
  obtain ⟨A, c, h, _⟩ := hN.sl.form
  exact ⟨A, c, by rw [h, List.length_append, hl]; rfl⟩

/-! ### MsgCounts -/
def cntR (N : Nat) : Rec := ⟨[97], 1, 0, mappedL ++ [0, 0, 0, byteOf (N : Int)], [], []⟩
def cntM (N j : Nat) : Msg := ⟨0, false, false, false, 0, [97], 1, List.replicate j (cntR N), []⟩
theorem cntR_16 (N : Nat) : (cntR N).addr.length = 16 := rfl
theorem cntR_right (N : Nat) : rightR (cntR N) = true := by
  have h1 : namesL [97] = true := by kernel_rfl
  have h2 : (mappedL ++ [0, 0, 0, byteOf (N : Int)]).take 12 = mappedL := List.take_left' rfl
  unfold rightR cntR
  simp [h1, h2]
theorem cnt_back {N : Nat} (h : N ≤ 32) : MBack (cntM N N) := by
  have h1 : namesL [97] = true := by kernel_rfl
  refine ⟨?_, Nat.le_of_ble_eq_true rfl, fun r hr => ?_⟩
  · unfold allM cntM
    simp [h1, h, cntR_right]
  · have : r = cntR N := by simpa [cntM] using (List.eq_of_mem_replicate (by simpa [cntM] using hr))
    subst this
    exact ⟨rfl, Nat.le_of_ble_eq_true rfl, Nat.le_of_ble_eq_true rfl⟩
theorem cnt_bad {N : Nat} (h : 32 < N) : allM (cntM N N) = false := by
  unfold allM cntM
  have : ¬ N ≤ 32 := by omega
  simp [this]
theorem cnt_small {N j : Nat} (h : j ≤ 64) : (cntM N j).small := by
  refine ⟨Nat.le_of_ble_eq_true rfl, by simp [cntM]; omega, by simp [cntM], fun r hr => ?_⟩
  have : r = cntR N := by simpa [cntM] using (List.eq_of_mem_replicate (by simpa [cntM] using hr))
  subst this
  exact ⟨Nat.le_of_ble_eq_true rfl, Nat.le_of_ble_eq_true rfl, Nat.le_of_ble_eq_true rfl⟩

/-! ### MsgPlaces -/
def plcM (s : List UInt8) (j : Nat) : Msg := ⟨0, false, false, false, 0, s, 1, List.replicate j (placeR s), []⟩
theorem placeR_right {s : List UInt8} (h : namesL s = true) : rightR (placeR s) = true := by
  unfold rightR placeR
  simp [h]
theorem plc_back {s : List UInt8} {j : Nat} (h : namesL s = true) (hs : (splitL s).length ≤ 16) (hj : j ≤ 32) : MBack (plcM s j) := by
  refine ⟨?_, hs, fun r hr => ?_⟩
  · unfold allM plcM
    simp [h, hj, placeR_right h]
  · have : r = placeR s := by simpa [plcM] using (List.eq_of_mem_replicate (by simpa [plcM] using hr))
    subst this
    exact ⟨rfl, hs, hs⟩
theorem plc_len {s : List UInt8} {j : Nat} {bs : List UInt8} (h : namesL s = true) (hb : bs = enc (plcM s j)) : bs.length = 12 + s.length + 2 + 4 + 14 * j := by
  rw [hb]; exact places_len j h

/-! ### MsgHeads -/
def hdR : Rec := ⟨[97, 46, 98], 16, 0, zero16, [], [120]⟩
def hdM (i : Int) : Msg := ⟨i, false, false, false, 0, [97, 46, 98], 1, [hdR], []⟩
theorem hd_back {i : Int} (h : 0 ≤ i ∧ i ≤ 65535) : MBack (hdM i) := by
  have h1 : namesL [97, 46, 98] = true := by kernel_rfl
  have h2 : rightR hdR = true := by kernel_rfl
  refine ⟨?_, Nat.le_of_ble_eq_true rfl, fun r hr => ?_⟩
  · unfold allM hdM
    simp [h1, h2, h]
  · have : r = hdR := by simpa [hdM] using hr
    subst this
    exact ⟨rfl, Nat.le_of_ble_eq_true rfl, Nat.le_of_ble_eq_true rfl⟩
def hdB (x y : UInt8) : List UInt8 := [x, y, 0, 0, 0, 1, 0, 1, 0, 0, 0, 0, 1, 97, 1, 98, 0, 0, 1, 0, 1, 192, 12, 0, 16, 0, 1, 0, 0, 0, 0, 0, 1, 120]
theorem hd_enc (i : Int) : ∃ x y, enc (hdM i) = hdB x y := ⟨byteOf (i / 2 ^ (8 * 1)), byteOf (i / 2 ^ (8 * 0)), by kernel_rfl⟩
theorem hd0 (x y : UInt8) : decode ((hdB x y).set 2 8) = none := by kernel_rfl
theorem hd1 (x y : UInt8) : decode ((hdB x y).set 5 2) = none := by kernel_rfl
theorem hd2 (x y : UInt8) : decode ((hdB x y).set 20 2) = none := by kernel_rfl
theorem hd3 (x y : UInt8) : decode ((hdB x y).set 22 40) = none := by kernel_rfl
theorem hd4 (x y : UInt8) : decode ((hdB x y).set 21 255) = none := by kernel_rfl
theorem tm5 (n : Int) : -5 < n.tmod 5 ∧ n.tmod 5 < 5 := by
  have h1 := Int.tmod_lt_of_pos n (show (0 : Int) < 5 by decide)
  have h2 := Int.lt_tmod_of_pos n (show (0 : Int) < 5 by decide)
  omega
theorem K5 (n : Int) : (n.tmod 5 + 5) % 5 = 0 ∨ (n.tmod 5 + 5) % 5 = 1 ∨ (n.tmod 5 + 5) % 5 = 2 ∨ (n.tmod 5 + 5) % 5 = 3 ∨ (n.tmod 5 + 5) % 5 = 4 := by omega
theorem R.remC {l : Env} {w : World} {x y : Operand} {t ty : TypeId} {P : Program} {a b r : Int} (hx : ev l x = some (.int .i64 a)) (hy : ev l y = some (.int .i64 b)) (h : b ≠ 0) (ha : 0 ≤ a) (hr : a % b = r) : Runs P l (.binOp .rem t x y ty) w (.int .i64 r) w := by
  subst hr
  exact R.remN hx hy h ha
theorem build86 (w : World) : (Instr.build 86 #[(0, .int .i64 2), (1, .int .i64 5), (2, .int .i64 20), (3, .int .i64 22), (4, .int .i64 21)]).run Tryd.prog w = .ok (.agg #[.int .i64 2, .int .i64 5, .int .i64 20, .int .i64 22, .int .i64 21]) w := by kernel_rfl
theorem build87 (w : World) : (Instr.build 87 #[(0, .int .u8 8), (1, .int .u8 2), (2, .int .u8 2), (3, .int .u8 40), (4, .int .u8 255)]).run Tryd.prog w = .ok (.agg #[u8v 8, u8v 2, u8v 2, u8v 40, u8v 255]) w := by kernel_rfl
theorem Src.nil (w : World) : Src w none 0 0 [] := ⟨rfl, Nat.le_refl _, fun h => absurd rfl h⟩
/-- Bytes that are owned, as a source. -/
theorem Buf.toSrc {w : World} {base g m c : Nat} {bs : List UInt8} (h : Buf w base (.slice (some ⟨g, 0, none⟩) m c) bs) (h0 : bs ≠ []) : Src w (some ⟨g, 0, none⟩) m c bs := by
  obtain ⟨g', c', he, _, _, hle, hcell⟩ := h.open h0
  injection he with e1 e2 e3
  injection e1 with e1
  injection e1 with e1
  subst e1 e2 e3
  exact Buf.src2 hle hcell
end Go.Proofs.YthcpjcgjmdfpjaaDoor
