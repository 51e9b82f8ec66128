/- A message that was written is read again, whatever stands behind it: plain. -/
import Derived.Test.YthcpjcgjmdfpjaaDoorReads
namespace Go.Proofs.YthcpjcgjmdfpjaaDoor
open Go Go.RowKit
set_option maxRecDepth 100000

theorem beNat2 {p : Nat} (h : p < 65536) : beNat (beN 2 (p : Int)) = p := by
  rw [beN2]
  simp only [beNat, List.foldl_cons, List.foldl_nil, byteOf_mod]
  omega
theorem beNat4 {p : Nat} (h : p < 4294967296) : beNat (beN 4 (p : Int)) = p := by
  have e3 : (p : Int) / 2 ^ (8 * 3) = ((p / 16777216 : Nat) : Int) := by
    have : (2 : Int) ^ (8 * 3) = 16777216 := rfl
    rw [this]; omega
  have e2 : (p : Int) / 2 ^ (8 * 2) = ((p / 65536 : Nat) : Int) := by
    have : (2 : Int) ^ (8 * 2) = 65536 := rfl
    rw [this]; omega
  have e : beN 4 (p : Int) = [byteOf ((p / 16777216 : Nat) : Int), byteOf ((p / 65536 : Nat) : Int)] ++ beN 2 (p : Int) := by
    show byteOf ((p : Int) / 2 ^ (8 * 3)) :: byteOf ((p : Int) / 2 ^ (8 * 2)) :: beN 2 (p : Int) = _
    rw [e3, e2]; rfl
  rw [e, beN2]
  simp only [beNat, List.cons_append, List.nil_append, List.foldl_cons, List.foldl_nil, byteOf_mod]
  omega
/-- A part of bytes. -/
theorem part_at {pre mid rest : List UInt8} {a n : Nat} (ha : pre.length = a) (hn : mid.length = n) : ((pre ++ (mid ++ rest)).drop a).take n = mid := by
  rw [List.drop_left' ha, List.take_left' hn]

theorem set_two (h d : List UInt8) (x y : UInt8) : ((h ++ [0, 0] ++ d).set h.length x).set (h.length + 1) y = h ++ [x, y] ++ d := by
  have e1 : (h ++ [0, 0] ++ d).set h.length x = h ++ [x, 0] ++ d := by
    rw [List.append_assoc, List.set_append_right _ _ (Nat.le_refl _), Nat.sub_self]; simp
  rw [e1, List.append_assoc, List.set_append_right _ _ (by omega), show h.length + 1 - h.length = 1 by omega]; simp
theorem setN_two (h d : List UInt8) : setN (h ++ [0, 0] ++ d) h.length = h ++ beN 2 ((d.length : Nat) : Int) ++ d := by
  unfold setN
  have e1 : (((h ++ [0, 0] ++ d).length : Nat) : Int) - (h.length : Int) - 2 = ((d.length : Nat) : Int) := by
    simp only [List.length_append, List.length_cons, List.length_nil]; omega
  rw [e1, set_two, beN2]
  have e2 : ((d.length : Nat) : Int) / 2 ^ (8 : Int).toNat = ((d.length / 256 : Nat) : Int) := by
    have : (2 : Int) ^ (8 : Int).toNat = 256 := rfl
    rw [this]; omega
  rw [e2]

/-- What a record must be to come back. -/
structure RBack (r : Rec) : Prop where
  right : rightR r = true
  a16 : r.addr.length = 16
  n : (splitL r.name).length ≤ 16
  t : (splitL r.text).length ≤ 16

theorem right_parts {r : Rec} (h : rightR r = true) : namesL r.name = true ∧ 0 ≤ r.ttl ∧ r.ttl ≤ 1048576 ∧
    ((r.type = 1 ∧ r.text = [] ∧ r.data = [] ∧ r.addr.take 12 = mappedL) ∨ (r.type = 28 ∧ r.text = [] ∧ r.data = []) ∨
     ((r.type = 2 ∨ r.type = 5 ∨ r.type = 12) ∧ r.data = [] ∧ r.addr = zero16 ∧ namesL r.text = true) ∨
     (¬ r.type = 1 ∧ ¬ r.type = 28 ∧ ¬ (r.type = 2 ∨ r.type = 5 ∨ r.type = 12) ∧ 0 < r.type ∧ r.type < 65536 ∧ r.text = [] ∧ r.addr = zero16 ∧ r.data.length ≤ 255)) := by
  unfold rightR at h
  simp only [Bool.and_eq_true, decide_eq_true_eq] at h
  obtain ⟨⟨⟨h1, h2⟩, h3⟩, h4⟩ := h
  refine ⟨h1, h2, h3, ?_⟩
  split at h4
  · rename_i e
    simp only [Bool.and_eq_true, decide_eq_true_eq] at h4
    exact .inl ⟨e, h4.1.1, h4.1.2, h4.2⟩
  · rename_i e1
    split at h4
    · rename_i e
      simp only [Bool.and_eq_true, decide_eq_true_eq] at h4
      exact .inr (.inl ⟨e, h4.1, h4.2⟩)
    · rename_i e2
      split at h4
      · rename_i e
        simp only [Bool.and_eq_true, decide_eq_true_eq] at h4
        exact .inr (.inr (.inl ⟨e, h4.1.1, h4.1.2, h4.2⟩))
      · rename_i e3
        simp only [Bool.and_eq_true, decide_eq_true_eq] at h4
        exact .inr (.inr (.inr ⟨e1, e2, e3, h4.1.1.1.1, h4.1.1.1.2, h4.1.1.2, h4.1.2, h4.2⟩))

/-- A record's data written is read again. -/
theorem body_back {r : Rec} (hr : RBack r) (ty : Nat) (hty : r.type = ty) (h : List UInt8) (at_ : At) (hg : GoodAll h at_) :
    ∃ d at2, (∀ x y : UInt8, wrBody r (h ++ [x, y]) at_ = (h ++ [x, y] ++ d, at2) ∧ GoodAll (h ++ [x, y] ++ d) at2 ∧ ∀ more, recBody (h ++ [x, y] ++ d ++ more) r.name ty r.ttl (h.length + 2) d.length = some r) ∧ d.length < 65536 := by
  have part : ∀ (x y : UInt8) (d more : List UInt8), ((h ++ [x, y] ++ d ++ more).drop (h.length + 2)).take d.length = d := by
    intro x y d more
    rw [List.append_assoc]
    exact part_at (by simp) rfl
  obtain ⟨hn, _, _, hc⟩ := right_parts hr.right
  obtain ⟨name, type, ttl, addr, text, data⟩ := r
  simp only at hty hn hc
  subst hty
  have ha16 : addr.length = 16 := hr.a16
  rcases hc with ⟨e, rfl, rfl, e3⟩ | ⟨e, rfl, rfl⟩ | ⟨e, rfl, rfl, e3⟩ | ⟨e1, e2, e3, _, _, rfl, rfl, e6⟩
  · refine ⟨addr.drop 12, at_, fun x y => ⟨body1 e, ?_, fun more => ?_⟩, by simp [ha16]⟩
    · rw [List.append_assoc]; exact hg.app _
    · rw [body_a (by omega) (by simp [ha16]), part]
      have : mappedL ++ addr.drop 12 = addr := by rw [← e3, List.take_append_drop]
      rw [this]
  · refine ⟨addr, at_, fun x y => ⟨body2 e, ?_, fun more => ?_⟩, by simp [ha16]⟩
    · rw [List.append_assoc]; exact hg.app _
    · rw [body_aaaa (by omega) ha16, part]
  · obtain ⟨t, at2, hw, _⟩ := wr_ext (splitL text) (h ++ [0, 0]) (h ++ [0, 0]) at_ rfl
    have hw' : ∀ x y : UInt8, wrLabels (splitL text) (h ++ [x, y]) at_ = (h ++ [x, y] ++ t, at2) := by
      intro x y
      obtain ⟨t', at', h1, h2⟩ := wr_ext (splitL text) (h ++ [0, 0]) (h ++ [x, y]) at_ (by simp)
      rw [hw] at h1
      injection h1 with h3 h4
      have := List.append_cancel_left h3
      rw [h2, this, h4]
    have htl : t.length < 65536 := by
      have h1 := wrLabels_length (splitL text) (h ++ [0, 0]) at_
      have h2 := wlen_split text
      have h3 := (names_len e3).1
      rw [hw] at h1
      simp only [List.length_append, List.length_cons, List.length_nil] at h1
      omega
    refine ⟨t, at2, fun x y => ?_, htl⟩
    obtain ⟨t', h1, h2, h3⟩ := name_reads (s := text) (b := h ++ [x, y]) e3 hr.t (by exact hg.app _)
    have e0 : wrName text (h ++ [x, y], at_) = (h ++ [x, y] ++ t, at2) := hw' x y
    rw [e0] at h1 h2
    have e5 : t = t' := List.append_cancel_left h1
    subst e5
    refine ⟨by rw [body3 e, e0], h2, fun more => ?_⟩
    have h4 := h3 more
    rw [show (h ++ [x, y]).length = h.length + 2 by simp, show (h ++ [x, y] ++ t).length = h.length + 2 + t.length by simp; omega] at h4
    unfold recBody
    rw [if_neg (by omega), if_neg (by omega), if_pos (by omega), h4]
    simp
  · refine ⟨data, at_, fun x y => ⟨body4 e1 e2 e3, ?_, fun more => ?_⟩, by omega⟩
    · rw [List.append_assoc]; exact hg.app _
    · rw [body_other (by omega) (by omega) (by omega), part]

theorem ttlOf_back {n : Nat} (h : n ≤ 1048576) : ttlOf n = (n : Int) := by
  unfold ttlOf
  rw [if_neg (by omega)]
/-- A record written is read again. -/
theorem rec_back {r : Rec} (hr : RBack r) {b : List UInt8} {at_ : At} (hg : GoodAll b at_) :
    ∃ t, (wrRec r (b, at_)).1 = b ++ t ∧ GoodAll (b ++ t) (wrRec r (b, at_)).2 ∧ ∀ more, readRec (b ++ t ++ more) b.length = some (r, (b ++ t).length) := by
  obtain ⟨hn, htl0, htl1, hc⟩ := right_parts hr.right
  obtain ⟨ttl, httl⟩ : ∃ n : Nat, r.ttl = n := ⟨r.ttl.toNat, by omega⟩
  obtain ⟨ty, hty⟩ : ∃ n : Nat, r.type = n := ⟨r.type.toNat, by omega⟩
  have htyl : ty < 65536 := by omega
  obtain ⟨t1, h1, h2, h3⟩ := name_reads (s := r.name) (b := b) (at_ := at_) hn hr.n hg
  obtain ⟨hd, hhd⟩ : ∃ hd, hd = beN 2 r.type ++ beN 2 1 ++ beN 4 r.ttl := ⟨_, rfl⟩
  have hhl : hd.length = 8 := by rw [hhd]; simp [beN_length]
  have hH : wrHead r (wrName r.name (b, at_)).1 = b ++ t1 ++ hd := by unfold wrHead; rw [h1, hhd]; simp
  obtain ⟨d, at2, hb, hdl⟩ := body_back hr ty hty (b ++ t1 ++ hd) (wrName r.name (b, at_)).2 (h2.app hd)
  have hdl2 : (beN 2 ((d.length : Nat) : Int)) = [byteOf ((d.length / 256 : Nat) : Int), byteOf ((d.length : Nat) : Int)] := beN2 _
  obtain ⟨hb1, hb2, hb3⟩ := hb (byteOf ((d.length / 256 : Nat) : Int)) (byteOf ((d.length : Nat) : Int))
  have hw : wrRec r (b, at_) = (b ++ t1 ++ hd ++ beN 2 ((d.length : Nat) : Int) ++ d, at2) := by
    unfold wrRec
    rw [hH, (hb 0 0).1, setN_two]
  rw [hw]
  refine ⟨t1 ++ hd ++ beN 2 ((d.length : Nat) : Int) ++ d, by simp, ?_, fun more => ?_⟩
  · have : b ++ (t1 ++ hd ++ beN 2 ((d.length : Nat) : Int) ++ d) = b ++ t1 ++ hd ++ beN 2 ((d.length : Nat) : Int) ++ d := by simp
    rw [this, hdl2]; exact hb2
  · have e0 : b ++ (t1 ++ hd ++ beN 2 ((d.length : Nat) : Int) ++ d) ++ more = b ++ t1 ++ (hd ++ beN 2 ((d.length : Nat) : Int) ++ d ++ more) := by simp
    have hrd := h3 (hd ++ beN 2 ((d.length : Nat) : Int) ++ d ++ more)
    rw [e0]
    have p0 : ((b ++ t1 ++ (hd ++ beN 2 ((d.length : Nat) : Int) ++ d ++ more)).drop (b ++ t1).length).take 2 = beN 2 r.type := by
      rw [show hd ++ beN 2 ((d.length : Nat) : Int) ++ d ++ more = beN 2 r.type ++ (beN 2 1 ++ beN 4 r.ttl ++ beN 2 ((d.length : Nat) : Int) ++ d ++ more) by rw [hhd]; simp]
      exact part_at rfl (beN_length _ _)
    have p2 : ((b ++ t1 ++ (hd ++ beN 2 ((d.length : Nat) : Int) ++ d ++ more)).drop ((b ++ t1).length + 2)).take 2 = beN 2 1 := by
      rw [show b ++ t1 ++ (hd ++ beN 2 ((d.length : Nat) : Int) ++ d ++ more) = (b ++ t1 ++ beN 2 r.type) ++ (beN 2 1 ++ (beN 4 r.ttl ++ beN 2 ((d.length : Nat) : Int) ++ d ++ more)) by rw [hhd]; simp]
      exact part_at (by simp [beN_length]; omega) (beN_length _ _)
    have p4 : ((b ++ t1 ++ (hd ++ beN 2 ((d.length : Nat) : Int) ++ d ++ more)).drop ((b ++ t1).length + 4)).take 4 = beN 4 r.ttl := by
      rw [show b ++ t1 ++ (hd ++ beN 2 ((d.length : Nat) : Int) ++ d ++ more) = (b ++ t1 ++ beN 2 r.type ++ beN 2 1) ++ (beN 4 r.ttl ++ (beN 2 ((d.length : Nat) : Int) ++ d ++ more)) by rw [hhd]; simp]
      exact part_at (by simp [beN_length]; omega) (beN_length _ _)
    have p8 : ((b ++ t1 ++ (hd ++ beN 2 ((d.length : Nat) : Int) ++ d ++ more)).drop ((b ++ t1).length + 8)).take 2 = beN 2 ((d.length : Nat) : Int) := by
      rw [show b ++ t1 ++ (hd ++ beN 2 ((d.length : Nat) : Int) ++ d ++ more) = (b ++ t1 ++ hd) ++ (beN 2 ((d.length : Nat) : Int) ++ (d ++ more)) by simp]
      exact part_at (by rw [List.length_append, hhl]) (beN_length _ _)
    have q0 : beNat (beN 2 r.type) = ty := by rw [hty]; exact beNat2 htyl
    have q2 : beNat (beN 2 1) = 1 := beNat2 (p := 1) (by decide)
    have q4 : beNat (beN 4 r.ttl) = ttl := by rw [httl]; exact beNat4 (by omega)
    have q8 : beNat (beN 2 ((d.length : Nat) : Int)) = d.length := beNat2 hdl
    have hlen : (b ++ t1 ++ (hd ++ beN 2 ((d.length : Nat) : Int) ++ d ++ more)).length = (b ++ t1).length + 10 + d.length + more.length := by
      simp only [List.length_append, hhl, beN_length]; omega
    rw [readRec_body hrd (by rw [hlen]; omega) (by rw [p2, q2]) (by rw [p8, q8, hlen]; omega), p0, p4, p8, q0, q4, q8, ttlOf_back (by omega)]
    have e1 : b ++ t1 ++ (hd ++ beN 2 ((d.length : Nat) : Int) ++ d ++ more) = b ++ t1 ++ hd ++ [byteOf ((d.length / 256 : Nat) : Int), byteOf ((d.length : Nat) : Int)] ++ d ++ more := by rw [hdl2]; simp
    have e2 : (b ++ t1).length + 10 = (b ++ t1 ++ hd).length + 2 := by simp only [List.length_append, hhl]
    have := hb3 more
    rw [httl] at this
    rw [e1, e2, this, finR]
    rw [if_pos hr.right]
    have e9 : (b ++ t1).length + 10 + d.length = (b ++ (t1 ++ hd ++ beN 2 ((d.length : Nat) : Int) ++ d)).length := by
      simp only [List.length_append, hhl, beN_length]; omega
    rw [← e9, e2]

/-- Records written are read again. -/
theorem recs_back : ∀ (rs : List Rec) (b : List UInt8) (at_ : At), (∀ r ∈ rs, RBack r) → GoodAll b at_ →
    ∃ t, (wrRecs rs (b, at_)).1 = b ++ t ∧ GoodAll (b ++ t) (wrRecs rs (b, at_)).2 ∧ ∀ more, readRecs (b ++ t ++ more) rs.length b.length = some (rs, (b ++ t).length)
  | [], b, at_, _, hg => ⟨[], by simp [wrRecs], by simpa [wrRecs] using hg, fun more => by simp [readRecs]⟩
  | r :: rs, b, at_, hr, hg => by
    obtain ⟨t1, h1, h2, h3⟩ := rec_back (hr r (by simp)) hg
    obtain ⟨at1, hat⟩ : ∃ a, a = (wrRec r (b, at_)).2 := ⟨_, rfl⟩
    have e1 : wrRec r (b, at_) = (b ++ t1, at1) := by rw [hat, ← h1]
    rw [← hat] at h2
    obtain ⟨t2, g1, g2, g3⟩ := recs_back rs (b ++ t1) at1 (fun x hx => hr x (by simp [hx])) h2
    have e2 : wrRecs (r :: rs) (b, at_) = wrRecs rs (b ++ t1, at1) := by
      show wrRecs rs (wrRec r (b, at_)) = _
      rw [e1]
    rw [e2]
    have e3 : b ++ (t1 ++ t2) = b ++ t1 ++ t2 := by simp
    refine ⟨t1 ++ t2, by rw [e3]; exact g1, by rw [e3]; exact g2, fun more => ?_⟩
    have e4 : b ++ (t1 ++ t2) ++ more = b ++ t1 ++ (t2 ++ more) := by simp
    rw [List.length_cons, readRecs, e4, h3 (t2 ++ more)]
    simp only
    have e5 : b ++ t1 ++ (t2 ++ more) = b ++ t1 ++ t2 ++ more := by simp
    rw [e5, g3 more, e3]

/-- What a message must be to come back. -/
structure MBack (m : Msg) : Prop where
  all : allM m = true
  q : (splitL m.qname).length ≤ 16
  r : ∀ r ∈ m.ans ++ m.auth, r.addr.length = 16 ∧ (splitL r.name).length ≤ 16 ∧ (splitL r.text).length ≤ 16

theorem flags_back (c : Nat) (hc : c < 16) (a b d : Bool) : flagsTo c [a, b, d] 3 < 65536 ∧ ¬ 0 < flagsTo c [a, b, d] 3 &&& 30720 ∧ decide (0 < flagsTo c [a, b, d] 3 &&& 32768) = a ∧ decide (0 < flagsTo c [a, b, d] 3 &&& 512) = b ∧ decide (0 < flagsTo c [a, b, d] 3 &&& 256) = d ∧ flagsTo c [a, b, d] 3 &&& 15 = c := by
  have key : ∀ c : Fin 16, ∀ a b d : Bool, flagsTo c.val [a, b, d] 3 < 65536 ∧ ¬ 0 < flagsTo c.val [a, b, d] 3 &&& 30720 ∧ decide (0 < flagsTo c.val [a, b, d] 3 &&& 32768) = a ∧ decide (0 < flagsTo c.val [a, b, d] 3 &&& 512) = b ∧ decide (0 < flagsTo c.val [a, b, d] 3 &&& 256) = d ∧ flagsTo c.val [a, b, d] 3 &&& 15 = c.val := by decide
  exact key ⟨c, hc⟩ a b d

theorem all_parts {m : Msg} (h : allM m = true) : 0 ≤ m.id ∧ m.id ≤ 65535 ∧ 0 ≤ m.code ∧ m.code ≤ 15 ∧ namesL m.qname = true ∧ 1 ≤ m.qtype ∧ m.qtype ≤ 65535 ∧ m.ans.length + m.auth.length ≤ 32 ∧ m.ans.all rightR = true ∧ m.auth.all rightR = true := by
  unfold allM at h
  simp only [Bool.and_eq_true, decide_eq_true_eq] at h
  obtain ⟨⟨⟨⟨⟨⟨⟨⟨⟨h1, h2⟩, h3⟩, h4⟩, h5⟩, h6⟩, h7⟩, h8⟩, h9⟩, h10⟩ := h
  exact ⟨h1, h2, h3, h4, h5, h6, h7, h8, h9, h10⟩

/-- A MESSAGE COMES BACK FROM ITS BYTES, whatever stands behind them. -/
theorem msg_back {m : Msg} (hm : MBack m) (more : List UInt8) : decode (enc m ++ more) = some m := by
  obtain ⟨a1, a2, a3, a4, a5, a6, a7, a8, a9, a10⟩ := all_parts hm.all
  obtain ⟨id, hid⟩ : ∃ n : Nat, m.id = n := ⟨m.id.toNat, by omega⟩
  obtain ⟨code, hcode⟩ : ∃ n : Nat, m.code = n := ⟨m.code.toNat, by omega⟩
  obtain ⟨qt, hqt⟩ : ∃ n : Nat, m.qtype = n := ⟨m.qtype.toNat, by omega⟩
  obtain ⟨f1, f2, f3, f4, f5, f6⟩ := flags_back code (by omega) m.reply m.trunc m.recur
  have hct : m.code.toNat = code := by rw [hcode]; rfl
  obtain ⟨fl, hfl⟩ : ∃ f, f = flagsTo code [m.reply, m.trunc, m.recur] 3 := ⟨_, rfl⟩
  rw [← hfl] at f1 f2 f3 f4 f5 f6
  obtain ⟨hd, hhd⟩ : ∃ hd, hd = (headNums m).flatMap (beN 2) := ⟨_, rfl⟩
  have hh6 : hd = beN 2 ((id : Nat) : Int) ++ (beN 2 ((fl : Nat) : Int) ++ (beN 2 ((1 : Nat) : Int) ++ (beN 2 ((m.ans.length : Nat) : Int) ++ (beN 2 ((m.auth.length : Nat) : Int) ++ beN 2 0)))) := by
    rw [hhd]
    unfold headNums
    rw [hct, ← hfl, hid]
    simp
  have hhl : hd.length = 12 := by rw [hh6]; simp [beN_length]
  obtain ⟨t1, h1, h2, h3⟩ := name_reads (s := m.qname) (b := hd) (at_ := []) a5 hm.q (fun e he => by cases he)
  obtain ⟨at1, hat⟩ : ∃ a, a = (wrName m.qname (hd, [])).2 := ⟨_, rfl⟩
  rw [← hat] at h2
  obtain ⟨q, hq⟩ : ∃ q, q = beN 2 m.qtype ++ beN 2 1 := ⟨_, rfl⟩
  have hql : q.length = 4 := by rw [hq]; simp [beN_length]
  have hrb : ∀ r ∈ m.ans ++ m.auth, RBack r := by
    intro r hr
    obtain ⟨g1, g2, g3⟩ := hm.r r hr
    refine ⟨?_, g1, g2, g3⟩
    rcases List.mem_append.1 hr with h | h
    · exact List.all_eq_true.1 a9 r h
    · exact List.all_eq_true.1 a10 r h
  obtain ⟨t2, g1, g2, g3⟩ := recs_back m.ans (hd ++ t1 ++ q) at1 (fun r hr => hrb r (by simp [hr])) (h2.app q)
  obtain ⟨at2, hat2⟩ : ∃ a, a = (wrRecs m.ans (hd ++ t1 ++ q, at1)).2 := ⟨_, rfl⟩
  rw [← hat2] at g2
  obtain ⟨t3, k1, k2, k3⟩ := recs_back m.auth (hd ++ t1 ++ q ++ t2) at2 (fun r hr => hrb r (by simp [hr])) g2
  have henc : enc m = hd ++ t1 ++ q ++ t2 ++ t3 := by
    rw [enc_eq (st1 := (hd ++ t1 ++ q, at1)) (by rw [← hhd, hat, h1, hq]; simp)]
    have : wrRecs m.ans (hd ++ t1 ++ q, at1) = (hd ++ t1 ++ q ++ t2, at2) := by rw [hat2, ← g1]
    rw [this, k1]
  rw [henc]
  obtain ⟨rest, hrest⟩ : ∃ r, r = q ++ t2 ++ t3 ++ more := ⟨_, rfl⟩
  have e1 : hd ++ t1 ++ q ++ t2 ++ t3 ++ more = hd ++ t1 ++ rest := by rw [hrest]; simp
  have hlen : (hd ++ t1 ++ q ++ t2 ++ t3 ++ more).length = 12 + t1.length + 4 + t2.length + t3.length + more.length := by
    simp only [List.length_append, hhl, hql]
  have pid : ((hd ++ t1 ++ rest).drop 0).take 2 = beN 2 ((id : Nat) : Int) := by
    rw [show hd ++ t1 ++ rest = [] ++ (beN 2 ((id : Nat) : Int) ++ (beN 2 ((fl : Nat) : Int) ++ (beN 2 ((1 : Nat) : Int) ++ (beN 2 ((m.ans.length : Nat) : Int) ++ (beN 2 ((m.auth.length : Nat) : Int) ++ beN 2 0))) ++ t1 ++ rest)) by rw [hh6]; simp]
    exact part_at rfl (beN_length _ _)
  have pfl : ((hd ++ t1 ++ rest).drop 2).take 2 = beN 2 ((fl : Nat) : Int) := by
    rw [show hd ++ t1 ++ rest = beN 2 ((id : Nat) : Int) ++ (beN 2 ((fl : Nat) : Int) ++ (beN 2 ((1 : Nat) : Int) ++ (beN 2 ((m.ans.length : Nat) : Int) ++ (beN 2 ((m.auth.length : Nat) : Int) ++ beN 2 0)) ++ t1 ++ rest)) by rw [hh6]; simp]
    exact part_at (beN_length _ _) (beN_length _ _)
  have p1 : ((hd ++ t1 ++ rest).drop 4).take 2 = beN 2 ((1 : Nat) : Int) := by
    rw [show hd ++ t1 ++ rest = (beN 2 ((id : Nat) : Int) ++ beN 2 ((fl : Nat) : Int)) ++ (beN 2 ((1 : Nat) : Int) ++ (beN 2 ((m.ans.length : Nat) : Int) ++ (beN 2 ((m.auth.length : Nat) : Int) ++ beN 2 0) ++ t1 ++ rest)) by rw [hh6]; simp]
    exact part_at (by simp [beN_length]) (beN_length _ _)
  have pn : ((hd ++ t1 ++ rest).drop 6).take 2 = beN 2 ((m.ans.length : Nat) : Int) := by
    rw [show hd ++ t1 ++ rest = (beN 2 ((id : Nat) : Int) ++ beN 2 ((fl : Nat) : Int) ++ beN 2 ((1 : Nat) : Int)) ++ (beN 2 ((m.ans.length : Nat) : Int) ++ (beN 2 ((m.auth.length : Nat) : Int) ++ beN 2 0 ++ t1 ++ rest)) by rw [hh6]; simp]
    exact part_at (by simp [beN_length]) (beN_length _ _)
  have pu : ((hd ++ t1 ++ rest).drop 8).take 2 = beN 2 ((m.auth.length : Nat) : Int) := by
    rw [show hd ++ t1 ++ rest = (beN 2 ((id : Nat) : Int) ++ beN 2 ((fl : Nat) : Int) ++ beN 2 ((1 : Nat) : Int) ++ beN 2 ((m.ans.length : Nat) : Int)) ++ (beN 2 ((m.auth.length : Nat) : Int) ++ (beN 2 0 ++ t1 ++ rest)) by rw [hh6]; simp]
    exact part_at (by simp [beN_length]) (beN_length _ _)
  have pq : ((hd ++ t1 ++ rest).drop (12 + t1.length)).take 2 = beN 2 ((qt : Nat) : Int) := by
    rw [show hd ++ t1 ++ rest = (hd ++ t1) ++ (beN 2 ((qt : Nat) : Int) ++ (beN 2 1 ++ t2 ++ t3 ++ more)) by rw [hrest, hq, hqt]; simp]
    exact part_at (by simp [hhl]) (beN_length _ _)
  have pc : ((hd ++ t1 ++ rest).drop (12 + t1.length + 2)).take 2 = beN 2 ((1 : Nat) : Int) := by
    rw [show hd ++ t1 ++ rest = (hd ++ t1 ++ beN 2 ((qt : Nat) : Int)) ++ (beN 2 ((1 : Nat) : Int) ++ (t2 ++ t3 ++ more)) by rw [hrest, hq, hqt]; simp]
    exact part_at (by simp [hhl, beN_length]; omega) (beN_length _ _)
  have hn : rdName (hd ++ t1 ++ rest) 300 12 0 0 [] 12 = some (m.qname, 12 + t1.length) := by
    have := h3 rest
    rw [hhl, show (hd ++ t1).length = 12 + t1.length by simp [hhl]] at this
    exact this
  have hra : readRecs (hd ++ t1 ++ rest) m.ans.length (12 + t1.length + 4) = some (m.ans, 12 + t1.length + 4 + t2.length) := by
    have := g3 (t3 ++ more)
    rw [show (hd ++ t1 ++ q).length = 12 + t1.length + 4 by simp [hhl, hql]; omega, show (hd ++ t1 ++ q ++ t2).length = 12 + t1.length + 4 + t2.length by simp [hhl, hql]; omega, show hd ++ t1 ++ q ++ t2 ++ (t3 ++ more) = hd ++ t1 ++ rest by rw [hrest]; simp] at this
    exact this
  have hru : ∃ e, readRecs (hd ++ t1 ++ rest) m.auth.length (12 + t1.length + 4 + t2.length) = some (m.auth, e) := by
    have := k3 more
    rw [show (hd ++ t1 ++ q ++ t2).length = 12 + t1.length + 4 + t2.length by simp [hhl, hql]; omega, e1] at this
    exact ⟨_, this⟩
  obtain ⟨e, hru⟩ := hru
  rw [e1] at hlen ⊢
  unfold decode
  rw [List.drop_zero] at pid
  rw [if_neg (by omega), pid, pfl, p1, pn, pu, beNat2 (p := id) (by omega), beNat2 f1, beNat2 (p := 1) (by omega), beNat2 (p := m.ans.length) (by omega), beNat2 (p := m.auth.length) (by omega), if_neg f2, if_neg (by simp), if_neg (by omega), hn]
  simp only
  rw [if_neg (by omega), pc, beNat2 (p := 1) (by omega), if_neg (by simp), hra]
  simp only
  rw [hru]
  simp only
  rw [pq, beNat2 (p := qt) (by omega), f3, f4, f5, f6]
  have : (⟨((id : Nat) : Int), m.reply, m.trunc, m.recur, ((code : Nat) : Int), m.qname, ((qt : Nat) : Int), m.ans, m.auth⟩ : Msg) = m := by
    obtain ⟨i, a, b, c, d, e, f, g, h⟩ := m
    simp only at hid hcode hqt
    subst hid hcode hqt
    rfl
  rw [this, finM, if_pos hm.all]
end Go.Proofs.YthcpjcgjmdfpjaaDoor
