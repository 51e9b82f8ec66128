/- MsgJunk: the statement MsgJunk is proved (its card); no conditions. Here: MsgJunk, MsgJunkCard. -/
import Derived.Test.YthcpjcgjmdfpjaaDoorWordsMsg
import Derived.Test.YthcpjcgjmdfpjaaDoorCoreB
import Derived.Test.YthcpjcgjmdfpjaaDoorCoreE
namespace Go.Proofs.YthcpjcgjmdfpjaaDoor
open Go Go.RowKit
set_option maxRecDepth 100000
set_option maxHeartbeats 4000000

theorem dec_two {base : Nat} {bs : List UInt8} {e : Ending} {w : World} (h : DecRes base (decode bs) e w) : (decode bs = none ∧ e = .returned (.tuple #[zeroMV, .int .i64 4])) ∨
    (∃ M, decode bs = some M ∧ ∃ va vb, e = .returned (.tuple #[.agg (M.cells va vb).toArray, .int .i64 0]) ∧ RSl w va M.ans ∧ RSl w vb M.auth ∧ (∀ k, va.ownBlock = some k → base ≤ k) ∧ (∀ k, vb.ownBlock = some k → base ≤ k)) := by
  cases hd : decode bs with
  | none => rw [hd] at h; exact .inl ⟨rfl, h⟩
  | some M =>
    rw [hd] at h
    obtain ⟨v, rfl, va, vb, rfl, h1, h2, h3, h4⟩ := h
    exact .inr ⟨M, rfl, va, vb, rfl, h1, h2, h3, h4⟩
theorem tiny_all {m : Msg} (h : allM m = true) : m.tiny := by
  obtain ⟨_, _, hc1, hc2, hq, _, _, hn, ha, hu⟩ := all_parts h
  refine ⟨by have := (names_len hq).1; omega, by omega, fun r hr => ?_, by omega⟩
  have hr1 : rightR r = true := by
    rcases List.mem_append.1 hr with h | h
    · exact List.all_eq_true.1 ha r h
    · exact List.all_eq_true.1 hu r h
  obtain ⟨h1, _, _, hc⟩ := right_parts hr1
  have hl1 := (names_len h1).1
  rcases hc with ⟨_, e1, e2, _⟩ | ⟨_, e1, e2⟩ | ⟨_, e1, _, e2⟩ | ⟨_, _, _, _, _, e1, _, e2⟩
  · exact ⟨by omega, by simp [e1], by simp [e2]⟩
  · exact ⟨by omega, by simp [e1], by simp [e2]⟩
  · have := (names_len e2).1
    exact ⟨by omega, by omega, by simp [e1]⟩
  · exact ⟨by omega, by simp [e1], by omega⟩
theorem small_all {m : Msg} (h : allM m = true) : m.small := by
  obtain ⟨h1, h2, h3, _⟩ := tiny_all h
  exact ⟨by omega, by omega, by omega, fun r hr => by obtain ⟨a, b, c⟩ := h3 r hr; exact ⟨by omega, by omega, by omega⟩⟩
theorem Buf.lit {w : World} {base b : Nat} {bs : List UInt8} (hb : w.heap[b]? = some (.cells (bs.map u8v).toArray 5 (0, 0))) (hl : bs.length ≤ maxLen) (h : base ≤ b) : Buf w base (.slice (some ⟨b, 0, none⟩) bs.length bs.length) bs :=
  ⟨by simp, .inr ⟨b, bs.length, _, rfl, h, hb, Nat.le_refl _, hl, by simp, by simp [List.take_of_length_le]⟩⟩
theorem slice_lit (w : World) : (Instr.buildSlice 36 12 #[(0, .int .u8 0), (1, .int .u8 1), (2, .int .u8 129), (3, .int .u8 128), (4, .int .u8 0), (5, .int .u8 1), (6, .int .u8 0), (7, .int .u8 1), (8, .int .u8 0), (9, .int .u8 0), (10, .int .u8 0), (11, .int .u8 0)]).run Tryd.prog w = .ok (.slice (some ⟨w.heap.size, 0, none⟩) 12 12) (w.alloc (.cells (([0, 1, 129, 128, 0, 1, 0, 1, 0, 0, 0, 0] : List UInt8).map u8v).toArray 5)) := by kernel_rfl
theorem build33_nil (w : World) : (Instr.build 33 #[]).run Tryd.prog w = .ok (.agg (Msg.cells ⟨0, false, false, false, 0, [], 0, [], []⟩ (.slice none 0 0) (.slice none 0 0)).toArray) w := by kernel_rfl
/-- What is read behind a head of one answer. -/
theorem junk_dec {bs : List UInt8} {N : Msg} (h : decode ([0, 1, 129, 128, 0, 1, 0, 1, 0, 0, 0, 0] ++ bs) = some N) : N.ans.length = 1 ∧ N.id = 1 := by
  have e0 : beNat (([0, 1, 129, 128, 0, 1, 0, 1, 0, 0, 0, 0] ++ bs).take 2) = 1 := by simp [beNat]
  have e6 : beNat ((([0, 1, 129, 128, 0, 1, 0, 1, 0, 0, 0, 0] ++ bs).drop 6).take 2) = 1 := by simp [beNat]
  unfold decode at h
  rw [e0, e6] at h
  split at h
  · cases h
  split at h
  · cases h
  split at h
  · cases h
  split at h
  · cases h
  split at h
  · cases h
  split at h
  · cases h
  split at h
  · cases h
  split at h
  · cases h
  rename_i an a2 hr1
  split at h
  · cases h
  unfold finM at h
  split at h
  · have hm := Option.some.inj h
    rw [← hm]
    exact ⟨(readRecs_ok hr1).1, rfl⟩
  · cases h
theorem msgJunk_any (A : Option Addr) (m c : Nat) (bs : List UInt8) (w0 : World) (hS : Src w0 A m c bs) (hgl : ∀ g o, A = some ⟨g, o, none⟩ → g < w0.heap.size) (hA0 : A = none → c = 0) (hG : Glob w0) : Calls Tryd.prog 7 #[.slice A m c] w0 fun e w' => e = .returned (.bool true) ∧ Chg (fun _ => False) w0 w' := by
  have hC := Chg.refl (fun _ => False) w0
  have hml := hS.len
  refine calls_cw (args := [.slice A m c]) Tryd.func7 rfl rfl ?_
  show CW _ _ _ 64 [(0, .slice A m c)] w0
  refine CW.rseq ?_
  refine WL.op (by decide) (R.assign rfl) ?_
  refine WL.next ?_
  refine CW.seq ?_
  refine CW.rseq ?_
  refine WL.eff rfl (OP.call (by decide) Tryd.func29 (by kernel_rfl) (by kernel_rfl) rfl (fit04_any _ (hG.keep0 hC)) ?_)
  rintro ed w1 ⟨rfl, hc_w1⟩
  refine ⟨_, rfl, ?_⟩
  have hC := hC.trans hc_w1
  have hz_w1 := hc_w1.size
  refine WL.op (by decide) (R.not rfl) ?_
  refine WL.next ?_
  refine CW.condF rfl ?_
  refine CW.skip ?_
  refine EW.next ?_
  refine CW.seq ?_
  refine CW.rseq ?_
  refine WL.op (by decide) (R.move rfl) ?_
  refine WL.op (by decide) (R.lenSlice rfl Tryd.underlying36 rfl) ?_
  refine WL.gtrS (by decide) rfl rfl (fun h1 => ?_) (fun h1 => ?_)
  · skip
    refine WL.next ?_
    refine CW.condT rfl ?_
    refine CW.rseq ?_
    refine WL.op (by decide) (R.assign rfl) ?_
    refine WL.next ?_
    refine CW.ret ?_
    refine EW.thenRet ?_
    exact EW.ret1 (.inl rfl) rfl rfl ⟨rfl, hC⟩
  · skip
    refine WL.next ?_
    refine CW.condF rfl ?_
    refine CW.skip ?_
    refine EW.next ?_
    refine CW.rseq ?_
    refine WL.op (by decide) (R.move rfl) ?_
    refine WL.eff rfl (OP.call (by decide) Tryd.func27 (by kernel_rfl) (by kernel_rfl) rfl (decode_any _ _ _ _ _ (hS.keep0 hC) (fun g o h => by have := hgl g o h; omega) (by omega) (hG.keep0 hC)) ?_)
    rintro ed w2 ⟨hc_w2, hres⟩
    have hC := hC.trans hc_w2
    have hz_w2 := hc_w2.size
    rcases dec_two hres with ⟨hdM, rfl⟩ | ⟨MM, hdM, vaM, vbM, rfl, hvaM, hvbM, hoaM, hobM⟩
    · skip
      refine ⟨_, rfl, ?_⟩
      refine WL.op (by decide) (R.move rfl) ?_
      refine WL.op (by decide) (R.extract rfl rfl) ?_
      refine WL.op (by decide) (R.extract rfl rfl) ?_
      refine WL.eff rfl (OP.allocM (by decide) ?_)
      intro w3 hc_w3 hs_w3 hB3
      obtain ⟨b3, he_b3⟩ : ∃ b, b = w2.heap.size := ⟨_, rfl⟩
      rw [← he_b3] at hB3 ⊢
      have hC := hC.trans hc_w3
      have hz_w3 := hc_w3.size
      refine WL.eff rfl (OP.storeM rfl rfl hB3 ?_)
      intro w4 hc_w4 hs_w4 hB3
      have hC := hC.thenB hc_w4 (by omega)
      refine WL.op (by decide) (R.assign rfl) ?_
      refine WL.next ?_
      refine CW.rseq ?_
      refine WL.eff rfl (OP.buildSlice (parts := [(0, _), (1, _), (2, _), (3, _), (4, _), (5, _), (6, _), (7, _), (8, _), (9, _), (10, _), (11, _)]) (vals := [(0, _), (1, _), (2, _), (3, _), (4, _), (5, _), (6, _), (7, _), (8, _), (9, _), (10, _), (11, _)]) (cells := (([0, 1, 129, 128, 0, 1, 0, 1, 0, 0, 0, 0] : List UInt8).map u8v).toArray) (ty := 5) (by decide) rfl slice_lit ?_)
      intro w5 hc_w5 hs_w5 hN
      obtain ⟨gE, he_gE⟩ : ∃ b, b = w4.heap.size := ⟨_, rfl⟩
      rw [← he_gE] at hN ⊢
      have hB3 := hc_w5.at hB3 (fun e => e)
      have hC := hC.trans hc_w5
      have hz_w5 := hc_w5.size
      have hBufE := Buf.lit (base := gE) hN (by decide) (Nat.le_refl _)
      have hglE : gE < w5.heap.size := by omega
      have hK5 : Chg (fun _ => False) w5 w5 := Chg.refl _ _
      refine WL.op (by decide) (R.move rfl) ?_
      refine WL.eff rfl (OP.appendSrc (by decide) rfl rfl (hBufE.keep0 hK5) (hS.keep0 hC) hA0 (by simp; omega) (by omega) ?_)
      intro v2 w6 hB2 hMv
      obtain ⟨g2, ce2, rfl, hSrc2, hc_w6, hgl2⟩ := appended (by simp) hB2 hMv (by omega)
      have hl2 : ([0, 1, 129, 128, 0, 1, 0, 1, 0, 0, 0, 0] ++ bs : List UInt8).length = 12 + bs.length := by simp; omega
      have hz_w6 := hc_w6.size
      have hB3 := hc_w6.at hB3 (fun e => by omega)
      have hC := hC.thenB hc_w6 (by omega)
      have hK6 : Chg (fun _ => False) w6 w6 := Chg.refl _ _
      refine WL.op (by decide) (R.assign rfl) ?_
      refine WL.next ?_
      refine CW.rseq ?_
      refine WL.op (by decide) (R.move rfl) ?_
      refine WL.eff rfl (OP.call (by decide) Tryd.func27 (by kernel_rfl) (by kernel_rfl) rfl (decode_any _ _ _ _ _ (hSrc2.keep0 hK6) (by rintro _ _ ⟨⟩; omega) (by omega) (hG.keep0 hC)) ?_)
      rintro ed w7 ⟨hc_w7, hres⟩
      have hB3 := hc_w7.at hB3 (fun e => e)
      have hC := hC.trans hc_w7
      have hK6 := hK6.trans hc_w7
      have hz_w7 := hc_w7.size
      rcases dec_two hres with ⟨hdN, rfl⟩ | ⟨MN, hdN, vaN, vbN, rfl, hvaN, hvbN, hoaN, hobN⟩
      · skip
        refine ⟨_, rfl, ?_⟩
        refine WL.op (by decide) (R.move rfl) ?_
        refine WL.op (by decide) (R.extract rfl rfl) ?_
        refine WL.op (by decide) (R.extract rfl rfl) ?_
        refine WL.eff rfl (OP.allocM (by decide) ?_)
        intro w8 hc_w8 hs_w8 hB6
        obtain ⟨b6, he_b6⟩ : ∃ b, b = w7.heap.size := ⟨_, rfl⟩
        rw [← he_b6] at hB6 ⊢
        have hB3 := hc_w8.at hB3 (fun e => e)
        have hC := hC.trans hc_w8
        have hK6 := hK6.trans hc_w8
        have hz_w8 := hc_w8.size
        refine WL.eff rfl (OP.storeM rfl rfl hB6 ?_)
        intro w9 hc_w9 hs_w9 hB6
        have hB3 := hc_w9.at hB3 (fun e => by omega)
        have hC := hC.thenB hc_w9 (by omega)
        have hK6 := hK6.thenB hc_w9 (by omega)
        refine WL.op (by decide) (R.assign rfl) ?_
        refine WL.next ?_
        refine CW.rseq ?_
        refine WL.op (by decide) (R.move rfl) ?_
        refine WL.op (by decide) (R.eql rfl rfl (decide_eq_false (by decide))) ?_
        refine WL.op (by decide) (R.move rfl) ?_
        refine WL.pass (by decide) rfl rfl rfl ?_
        refine WL.pass (by decide) rfl rfl rfl ?_
        refine WL.op (by decide) (R.pickF rfl rfl) ?_
        refine WL.op (by decide) (R.move rfl) ?_
        refine WL.gop (by decide) rfl rfl rfl (R.move rfl) ?_
        refine WL.gop (by decide) rfl rfl rfl (R.eql rfl rfl (decide_eq_true (rfl))) ?_
        refine WL.gop (by decide) rfl rfl rfl (R.move rfl) ?_
        refine WL.gop (by decide) rfl rfl rfl (R.loadM rfl hB3) ?_
        refine WL.gop (by decide) rfl rfl rfl (R.build (parts := []) (vals := []) rfl build33_nil) ?_
        refine WL.geff rfl rfl rfl (OP.call (by decide) Tryd.func25 (by kernel_rfl) (by kernel_rfl) rfl (same_any _ _ _ _ _ ⟨_, _, rfl, (RSl.nil _), (RSl.nil _)⟩ ⟨_, _, rfl, (RSl.nil _), (RSl.nil _)⟩ (by decide) (by decide)) ?_)
        rintro ed w10 ⟨rfl, hc_w10⟩
        rw [sameM_self]
        refine ⟨_, rfl, ?_⟩
        have hB3 := hc_w10.at hB3 (fun e => e)
        have hB6 := hc_w10.at hB6 (fun e => e)
        have hC := hC.trans hc_w10
        have hK6 := hK6.trans hc_w10
        have hz_w10 := hc_w10.size
        refine WL.gop (by decide) rfl rfl rfl (R.pickT rfl rfl) ?_
        refine WL.op (by decide) (R.pickF rfl rfl) ?_
        refine WL.op (by decide) (R.move rfl) ?_
        refine WL.gop (by decide) rfl rfl rfl (R.move rfl) ?_
        refine WL.gop (by decide) rfl rfl rfl (R.eql rfl rfl (decide_eq_false (by decide))) ?_
        refine WL.gop (by decide) rfl rfl rfl (R.move rfl) ?_
        refine WL.pass (by decide) rfl rfl rfl ?_
        refine WL.pass (by decide) rfl rfl rfl ?_
        refine WL.gop (by decide) rfl rfl rfl (R.pickF rfl rfl) ?_
        refine WL.gop (by decide) rfl rfl rfl (R.move rfl) ?_
        refine WL.pass (by decide) rfl rfl rfl ?_
        refine WL.pass (by decide) rfl rfl rfl ?_
        refine WL.pass (by decide) rfl rfl rfl ?_
        refine WL.pass (by decide) rfl rfl rfl ?_
        refine WL.gop (by decide) rfl rfl rfl (R.pickF rfl rfl) ?_
        refine WL.gop (by decide) rfl rfl rfl (R.move rfl) ?_
        refine WL.pass (by decide) rfl rfl rfl ?_
        refine WL.pass (by decide) rfl rfl rfl ?_
        refine WL.pass (by decide) rfl rfl rfl ?_
        refine WL.gop (by decide) rfl rfl rfl (R.pickF rfl rfl) ?_
        refine WL.gop (by decide) rfl rfl rfl (R.move rfl) ?_
        refine WL.gop (by decide) rfl rfl rfl (R.move rfl) ?_
        refine WL.gop (by decide) rfl rfl rfl (R.eql rfl rfl (decide_eq_true (rfl))) ?_
        refine WL.gop (by decide) rfl rfl rfl (R.pickF rfl rfl) ?_
        refine WL.op (by decide) (R.pickT rfl rfl) ?_
        refine WL.op (by decide) (R.assign rfl) ?_
        refine WL.next ?_
        refine CW.ret ?_
        exact EW.ret1 (.inl rfl) rfl rfl ⟨rfl, hC⟩
      · skip
        obtain ⟨AaN, caN, rfl, _⟩ := hvaN.form
        obtain ⟨AbN, cbN, rfl, _⟩ := hvbN.form
        have hlenN := len_dec hdN
        have halN := decode_all hdN
        have hK10 : Chg (fun _ => False) w7 w7 := Chg.refl _ _
        refine ⟨_, rfl, ?_⟩
        refine WL.op (by decide) (R.move rfl) ?_
        refine WL.op (by decide) (R.extract rfl rfl) ?_
        refine WL.op (by decide) (R.extract rfl rfl) ?_
        refine WL.eff rfl (OP.allocM (by decide) ?_)
        intro w11 hc_w11 hs_w11 hB6
        obtain ⟨b6, he_b6⟩ : ∃ b, b = w7.heap.size := ⟨_, rfl⟩
        rw [← he_b6] at hB6 ⊢
        have hB3 := hc_w11.at hB3 (fun e => e)
        have hC := hC.trans hc_w11
        have hK6 := hK6.trans hc_w11
        have hK10 := hK10.trans hc_w11
        have hz_w11 := hc_w11.size
        refine WL.eff rfl (OP.storeM rfl rfl hB6 ?_)
        intro w12 hc_w12 hs_w12 hB6
        have hB3 := hc_w12.at hB3 (fun e => by omega)
        have hC := hC.thenB hc_w12 (by omega)
        have hK6 := hK6.thenB hc_w12 (by omega)
        have hK10 := hK10.thenB hc_w12 (by omega)
        refine WL.op (by decide) (R.assign rfl) ?_
        refine WL.next ?_
        refine CW.rseq ?_
        refine WL.op (by decide) (R.move rfl) ?_
        refine WL.op (by decide) (R.eql rfl rfl (decide_eq_false (by decide))) ?_
        refine WL.op (by decide) (R.move rfl) ?_
        refine WL.pass (by decide) rfl rfl rfl ?_
        refine WL.pass (by decide) rfl rfl rfl ?_
        refine WL.op (by decide) (R.pickF rfl rfl) ?_
        refine WL.op (by decide) (R.move rfl) ?_
        refine WL.gop (by decide) rfl rfl rfl (R.move rfl) ?_
        refine WL.gop (by decide) rfl rfl rfl (R.eql rfl rfl (decide_eq_true (rfl))) ?_
        refine WL.gop (by decide) rfl rfl rfl (R.move rfl) ?_
        refine WL.gop (by decide) rfl rfl rfl (R.loadM rfl hB3) ?_
        refine WL.gop (by decide) rfl rfl rfl (R.build (parts := []) (vals := []) rfl build33_nil) ?_
        refine WL.geff rfl rfl rfl (OP.call (by decide) Tryd.func25 (by kernel_rfl) (by kernel_rfl) rfl (same_any _ _ _ _ _ ⟨_, _, rfl, (RSl.nil _), (RSl.nil _)⟩ ⟨_, _, rfl, (RSl.nil _), (RSl.nil _)⟩ (by decide) (by decide)) ?_)
        rintro ed w13 ⟨rfl, hc_w13⟩
        rw [sameM_self]
        refine ⟨_, rfl, ?_⟩
        have hB3 := hc_w13.at hB3 (fun e => e)
        have hB6 := hc_w13.at hB6 (fun e => e)
        have hC := hC.trans hc_w13
        have hK6 := hK6.trans hc_w13
        have hK10 := hK10.trans hc_w13
        have hz_w13 := hc_w13.size
        refine WL.gop (by decide) rfl rfl rfl (R.pickT rfl rfl) ?_
        refine WL.op (by decide) (R.pickF rfl rfl) ?_
        refine WL.op (by decide) (R.move rfl) ?_
        refine WL.gop (by decide) rfl rfl rfl (R.move rfl) ?_
        refine WL.gop (by decide) rfl rfl rfl (R.eql rfl rfl (decide_eq_true (rfl))) ?_
        refine WL.gop (by decide) rfl rfl rfl (R.move rfl) ?_
        refine WL.gop (by decide) rfl rfl rfl (R.loadM rfl hB6) ?_
        refine WL.geff rfl rfl rfl (OP.call (by decide) Tryd.func30 (by kernel_rfl) (by kernel_rfl) rfl (all_any _ _ _ ⟨_, _, rfl, (hvaN.keep0 hK10), (hvbN.keep0 hK10)⟩ (hG.keep0 hC) ((small_all halN))) ?_)
        rintro ed w14 ⟨rfl, hc_w14⟩
        rw [halN]
        refine ⟨_, rfl, ?_⟩
        have hB3 := hc_w14.at hB3 (fun e => e)
        have hB6 := hc_w14.at hB6 (fun e => e)
        have hC := hC.trans hc_w14
        have hK6 := hK6.trans hc_w14
        have hK10 := hK10.trans hc_w14
        have hz_w14 := hc_w14.size
        refine WL.gop (by decide) rfl rfl rfl (R.pickT rfl rfl) ?_
        refine WL.gop (by decide) rfl rfl rfl (R.move rfl) ?_
        refine WL.gop (by decide) rfl rfl rfl (FA33_6 rfl) ?_
        refine WL.gop (by decide) rfl rfl rfl (R.load Tryd.underlying31 rfl rfl (cell_at hB6 rfl)) ?_
        refine WL.gop (by decide) rfl rfl rfl (R.lenSlice rfl Tryd.underlying31 rfl) ?_
        refine WL.gop (by decide) rfl rfl rfl (R.eql rfl rfl (decide_eq_true (by rw [(junk_dec hdN).1]; rfl))) ?_
        refine WL.gop (by decide) rfl rfl rfl (R.pickT rfl rfl) ?_
        refine WL.gop (by decide) rfl rfl rfl (R.move rfl) ?_
        refine WL.gop (by decide) rfl rfl rfl (FA33_0 rfl) ?_
        refine WL.gop (by decide) rfl rfl rfl (R.load Tryd.underlying3 rfl rfl (cell_at hB6 rfl)) ?_
        refine WL.gop (by decide) rfl rfl rfl (R.eql rfl rfl (decide_eq_true ((junk_dec hdN).2))) ?_
        refine WL.gop (by decide) rfl rfl rfl (R.pickT rfl rfl) ?_
        refine WL.gop (by decide) rfl rfl rfl (R.move rfl) ?_
        refine WL.pass (by decide) rfl rfl rfl ?_
        refine WL.pass (by decide) rfl rfl rfl ?_
        refine WL.gop (by decide) rfl rfl rfl (R.pickT rfl rfl) ?_
        refine WL.op (by decide) (R.pickT rfl rfl) ?_
        refine WL.op (by decide) (R.assign rfl) ?_
        refine WL.next ?_
        refine CW.ret ?_
        exact EW.ret1 (.inl rfl) rfl rfl ⟨rfl, hC⟩
    · skip
      obtain ⟨AaM, caM, rfl, _⟩ := hvaM.form
      obtain ⟨AbM, cbM, rfl, _⟩ := hvbM.form
      have hlenM := len_dec hdM
      have halM := decode_all hdM
      have hK14 : Chg (fun _ => False) w2 w2 := Chg.refl _ _
      refine ⟨_, rfl, ?_⟩
      refine WL.op (by decide) (R.move rfl) ?_
      refine WL.op (by decide) (R.extract rfl rfl) ?_
      refine WL.op (by decide) (R.extract rfl rfl) ?_
      refine WL.eff rfl (OP.allocM (by decide) ?_)
      intro w15 hc_w15 hs_w15 hB3
      obtain ⟨b3, he_b3⟩ : ∃ b, b = w2.heap.size := ⟨_, rfl⟩
      rw [← he_b3] at hB3 ⊢
      have hC := hC.trans hc_w15
      have hK14 := hK14.trans hc_w15
      have hz_w15 := hc_w15.size
      refine WL.eff rfl (OP.storeM rfl rfl hB3 ?_)
      intro w16 hc_w16 hs_w16 hB3
      have hC := hC.thenB hc_w16 (by omega)
      have hK14 := hK14.thenB hc_w16 (by omega)
      refine WL.op (by decide) (R.assign rfl) ?_
      refine WL.next ?_
      refine CW.rseq ?_
      refine WL.eff rfl (OP.buildSlice (parts := [(0, _), (1, _), (2, _), (3, _), (4, _), (5, _), (6, _), (7, _), (8, _), (9, _), (10, _), (11, _)]) (vals := [(0, _), (1, _), (2, _), (3, _), (4, _), (5, _), (6, _), (7, _), (8, _), (9, _), (10, _), (11, _)]) (cells := (([0, 1, 129, 128, 0, 1, 0, 1, 0, 0, 0, 0] : List UInt8).map u8v).toArray) (ty := 5) (by decide) rfl slice_lit ?_)
      intro w17 hc_w17 hs_w17 hN
      obtain ⟨gE, he_gE⟩ : ∃ b, b = w16.heap.size := ⟨_, rfl⟩
      rw [← he_gE] at hN ⊢
      have hB3 := hc_w17.at hB3 (fun e => e)
      have hC := hC.trans hc_w17
      have hK14 := hK14.trans hc_w17
      have hz_w17 := hc_w17.size
      have hBufE := Buf.lit (base := gE) hN (by decide) (Nat.le_refl _)
      have hglE : gE < w17.heap.size := by omega
      have hK17 : Chg (fun _ => False) w17 w17 := Chg.refl _ _
      refine WL.op (by decide) (R.move rfl) ?_
      refine WL.eff rfl (OP.appendSrc (by decide) rfl rfl (hBufE.keep0 hK17) (hS.keep0 hC) hA0 (by simp; omega) (by omega) ?_)
      intro v2 w18 hB2 hMv
      obtain ⟨g2, ce2, rfl, hSrc2, hc_w18, hgl2⟩ := appended (by simp) hB2 hMv (by omega)
      have hl2 : ([0, 1, 129, 128, 0, 1, 0, 1, 0, 0, 0, 0] ++ bs : List UInt8).length = 12 + bs.length := by simp; omega
      have hz_w18 := hc_w18.size
      have hB3 := hc_w18.at hB3 (fun e => by omega)
      have hC := hC.thenB hc_w18 (by omega)
      have hK14 := hK14.thenB hc_w18 (by omega)
      have hK18 : Chg (fun _ => False) w18 w18 := Chg.refl _ _
      refine WL.op (by decide) (R.assign rfl) ?_
      refine WL.next ?_
      refine CW.rseq ?_
      refine WL.op (by decide) (R.move rfl) ?_
      refine WL.eff rfl (OP.call (by decide) Tryd.func27 (by kernel_rfl) (by kernel_rfl) rfl (decode_any _ _ _ _ _ (hSrc2.keep0 hK18) (by rintro _ _ ⟨⟩; omega) (by omega) (hG.keep0 hC)) ?_)
      rintro ed w19 ⟨hc_w19, hres⟩
      have hB3 := hc_w19.at hB3 (fun e => e)
      have hC := hC.trans hc_w19
      have hK14 := hK14.trans hc_w19
      have hK18 := hK18.trans hc_w19
      have hz_w19 := hc_w19.size
      rcases dec_two hres with ⟨hdN, rfl⟩ | ⟨MN, hdN, vaN, vbN, rfl, hvaN, hvbN, hoaN, hobN⟩
      · skip
        refine ⟨_, rfl, ?_⟩
        refine WL.op (by decide) (R.move rfl) ?_
        refine WL.op (by decide) (R.extract rfl rfl) ?_
        refine WL.op (by decide) (R.extract rfl rfl) ?_
        refine WL.eff rfl (OP.allocM (by decide) ?_)
        intro w20 hc_w20 hs_w20 hB6
        obtain ⟨b6, he_b6⟩ : ∃ b, b = w19.heap.size := ⟨_, rfl⟩
        rw [← he_b6] at hB6 ⊢
        have hB3 := hc_w20.at hB3 (fun e => e)
        have hC := hC.trans hc_w20
        have hK14 := hK14.trans hc_w20
        have hK18 := hK18.trans hc_w20
        have hz_w20 := hc_w20.size
        refine WL.eff rfl (OP.storeM rfl rfl hB6 ?_)
        intro w21 hc_w21 hs_w21 hB6
        have hB3 := hc_w21.at hB3 (fun e => by omega)
        have hC := hC.thenB hc_w21 (by omega)
        have hK14 := hK14.thenB hc_w21 (by omega)
        have hK18 := hK18.thenB hc_w21 (by omega)
        refine WL.op (by decide) (R.assign rfl) ?_
        refine WL.next ?_
        refine CW.rseq ?_
        refine WL.op (by decide) (R.move rfl) ?_
        refine WL.op (by decide) (R.eql rfl rfl (decide_eq_true (rfl))) ?_
        refine WL.op (by decide) (R.move rfl) ?_
        refine WL.gop (by decide) rfl rfl rfl (R.loadM rfl hB3) ?_
        refine WL.geff rfl rfl rfl (OP.call (by decide) Tryd.func30 (by kernel_rfl) (by kernel_rfl) rfl (all_any _ _ _ ⟨_, _, rfl, (hvaM.keep0 hK14), (hvbM.keep0 hK14)⟩ (hG.keep0 hC) ((small_all halM))) ?_)
        rintro ed w22 ⟨rfl, hc_w22⟩
        rw [halM]
        refine ⟨_, rfl, ?_⟩
        have hB3 := hc_w22.at hB3 (fun e => e)
        have hB6 := hc_w22.at hB6 (fun e => e)
        have hC := hC.trans hc_w22
        have hK14 := hK14.trans hc_w22
        have hK18 := hK18.trans hc_w22
        have hz_w22 := hc_w22.size
        refine WL.op (by decide) (R.pickT rfl rfl) ?_
        refine WL.op (by decide) (R.move rfl) ?_
        refine WL.pass (by decide) rfl rfl rfl ?_
        refine WL.pass (by decide) rfl rfl rfl ?_
        refine WL.pass (by decide) rfl rfl rfl ?_
        refine WL.passU (by decide) rfl rfl ?_
        refine WL.passU (by decide) rfl rfl ?_
        refine WL.passU (by decide) rfl rfl ?_
        refine WL.pass (by decide) rfl rfl rfl ?_
        refine WL.op (by decide) (R.pickT rfl rfl) ?_
        refine WL.op (by decide) (R.move rfl) ?_
        refine WL.gop (by decide) rfl rfl rfl (R.move rfl) ?_
        refine WL.gop (by decide) rfl rfl rfl (R.eql rfl rfl (decide_eq_false (by decide))) ?_
        refine WL.gop (by decide) rfl rfl rfl (R.move rfl) ?_
        refine WL.pass (by decide) rfl rfl rfl ?_
        refine WL.pass (by decide) rfl rfl rfl ?_
        refine WL.gop (by decide) rfl rfl rfl (R.pickF rfl rfl) ?_
        refine WL.gop (by decide) rfl rfl rfl (R.move rfl) ?_
        refine WL.pass (by decide) rfl rfl rfl ?_
        refine WL.pass (by decide) rfl rfl rfl ?_
        refine WL.pass (by decide) rfl rfl rfl ?_
        refine WL.pass (by decide) rfl rfl rfl ?_
        refine WL.gop (by decide) rfl rfl rfl (R.pickF rfl rfl) ?_
        refine WL.gop (by decide) rfl rfl rfl (R.move rfl) ?_
        refine WL.pass (by decide) rfl rfl rfl ?_
        refine WL.pass (by decide) rfl rfl rfl ?_
        refine WL.pass (by decide) rfl rfl rfl ?_
        refine WL.gop (by decide) rfl rfl rfl (R.pickF rfl rfl) ?_
        refine WL.gop (by decide) rfl rfl rfl (R.move rfl) ?_
        refine WL.gop (by decide) rfl rfl rfl (R.move rfl) ?_
        refine WL.gop (by decide) rfl rfl rfl (R.eql rfl rfl (decide_eq_true (rfl))) ?_
        refine WL.gop (by decide) rfl rfl rfl (R.pickF rfl rfl) ?_
        refine WL.op (by decide) (R.pickT rfl rfl) ?_
        refine WL.op (by decide) (R.assign rfl) ?_
        refine WL.next ?_
        refine CW.ret ?_
        exact EW.ret1 (.inl rfl) rfl rfl ⟨rfl, hC⟩
      · skip
        obtain ⟨AaN, caN, rfl, _⟩ := hvaN.form
        obtain ⟨AbN, cbN, rfl, _⟩ := hvbN.form
        have hlenN := len_dec hdN
        have halN := decode_all hdN
        have hK22 : Chg (fun _ => False) w19 w19 := Chg.refl _ _
        refine ⟨_, rfl, ?_⟩
        refine WL.op (by decide) (R.move rfl) ?_
        refine WL.op (by decide) (R.extract rfl rfl) ?_
        refine WL.op (by decide) (R.extract rfl rfl) ?_
        refine WL.eff rfl (OP.allocM (by decide) ?_)
        intro w23 hc_w23 hs_w23 hB6
        obtain ⟨b6, he_b6⟩ : ∃ b, b = w19.heap.size := ⟨_, rfl⟩
        rw [← he_b6] at hB6 ⊢
        have hB3 := hc_w23.at hB3 (fun e => e)
        have hC := hC.trans hc_w23
        have hK14 := hK14.trans hc_w23
        have hK18 := hK18.trans hc_w23
        have hK22 := hK22.trans hc_w23
        have hz_w23 := hc_w23.size
        refine WL.eff rfl (OP.storeM rfl rfl hB6 ?_)
        intro w24 hc_w24 hs_w24 hB6
        have hB3 := hc_w24.at hB3 (fun e => by omega)
        have hC := hC.thenB hc_w24 (by omega)
        have hK14 := hK14.thenB hc_w24 (by omega)
        have hK18 := hK18.thenB hc_w24 (by omega)
        have hK22 := hK22.thenB hc_w24 (by omega)
        refine WL.op (by decide) (R.assign rfl) ?_
        refine WL.next ?_
        refine CW.rseq ?_
        refine WL.op (by decide) (R.move rfl) ?_
        refine WL.op (by decide) (R.eql rfl rfl (decide_eq_true (rfl))) ?_
        refine WL.op (by decide) (R.move rfl) ?_
        refine WL.gop (by decide) rfl rfl rfl (R.loadM rfl hB3) ?_
        refine WL.geff rfl rfl rfl (OP.call (by decide) Tryd.func30 (by kernel_rfl) (by kernel_rfl) rfl (all_any _ _ _ ⟨_, _, rfl, (hvaM.keep0 hK14), (hvbM.keep0 hK14)⟩ (hG.keep0 hC) ((small_all halM))) ?_)
        rintro ed w25 ⟨rfl, hc_w25⟩
        rw [halM]
        refine ⟨_, rfl, ?_⟩
        have hB3 := hc_w25.at hB3 (fun e => e)
        have hB6 := hc_w25.at hB6 (fun e => e)
        have hC := hC.trans hc_w25
        have hK14 := hK14.trans hc_w25
        have hK18 := hK18.trans hc_w25
        have hK22 := hK22.trans hc_w25
        have hz_w25 := hc_w25.size
        refine WL.op (by decide) (R.pickT rfl rfl) ?_
        refine WL.op (by decide) (R.move rfl) ?_
        refine WL.pass (by decide) rfl rfl rfl ?_
        refine WL.pass (by decide) rfl rfl rfl ?_
        refine WL.pass (by decide) rfl rfl rfl ?_
        refine WL.passU (by decide) rfl rfl ?_
        refine WL.passU (by decide) rfl rfl ?_
        refine WL.passU (by decide) rfl rfl ?_
        refine WL.pass (by decide) rfl rfl rfl ?_
        refine WL.op (by decide) (R.pickT rfl rfl) ?_
        refine WL.op (by decide) (R.move rfl) ?_
        refine WL.gop (by decide) rfl rfl rfl (R.move rfl) ?_
        refine WL.gop (by decide) rfl rfl rfl (R.eql rfl rfl (decide_eq_true (rfl))) ?_
        refine WL.gop (by decide) rfl rfl rfl (R.move rfl) ?_
        refine WL.gop (by decide) rfl rfl rfl (R.loadM rfl hB6) ?_
        refine WL.geff rfl rfl rfl (OP.call (by decide) Tryd.func30 (by kernel_rfl) (by kernel_rfl) rfl (all_any _ _ _ ⟨_, _, rfl, (hvaN.keep0 hK22), (hvbN.keep0 hK22)⟩ (hG.keep0 hC) ((small_all halN))) ?_)
        rintro ed w26 ⟨rfl, hc_w26⟩
        rw [halN]
        refine ⟨_, rfl, ?_⟩
        have hB3 := hc_w26.at hB3 (fun e => e)
        have hB6 := hc_w26.at hB6 (fun e => e)
        have hC := hC.trans hc_w26
        have hK14 := hK14.trans hc_w26
        have hK18 := hK18.trans hc_w26
        have hK22 := hK22.trans hc_w26
        have hz_w26 := hc_w26.size
        refine WL.gop (by decide) rfl rfl rfl (R.pickT rfl rfl) ?_
        refine WL.gop (by decide) rfl rfl rfl (R.move rfl) ?_
        refine WL.gop (by decide) rfl rfl rfl (FA33_6 rfl) ?_
        refine WL.gop (by decide) rfl rfl rfl (R.load Tryd.underlying31 rfl rfl (cell_at hB6 rfl)) ?_
        refine WL.gop (by decide) rfl rfl rfl (R.lenSlice rfl Tryd.underlying31 rfl) ?_
        refine WL.gop (by decide) rfl rfl rfl (R.eql rfl rfl (decide_eq_true (by rw [(junk_dec hdN).1]; rfl))) ?_
        refine WL.gop (by decide) rfl rfl rfl (R.pickT rfl rfl) ?_
        refine WL.gop (by decide) rfl rfl rfl (R.move rfl) ?_
        refine WL.gop (by decide) rfl rfl rfl (FA33_0 rfl) ?_
        refine WL.gop (by decide) rfl rfl rfl (R.load Tryd.underlying3 rfl rfl (cell_at hB6 rfl)) ?_
        refine WL.gop (by decide) rfl rfl rfl (R.eql rfl rfl (decide_eq_true ((junk_dec hdN).2))) ?_
        refine WL.gop (by decide) rfl rfl rfl (R.pickT rfl rfl) ?_
        refine WL.gop (by decide) rfl rfl rfl (R.move rfl) ?_
        refine WL.pass (by decide) rfl rfl rfl ?_
        refine WL.pass (by decide) rfl rfl rfl ?_
        refine WL.gop (by decide) rfl rfl rfl (R.pickT rfl rfl) ?_
        refine WL.op (by decide) (R.pickT rfl rfl) ?_
        refine WL.op (by decide) (R.assign rfl) ?_
        refine WL.next ?_
        refine CW.ret ?_
        exact EW.ret1 (.inl rfl) rfl rfl ⟨rfl, hC⟩
end Go.Proofs.YthcpjcgjmdfpjaaDoor

namespace Go.Proofs.YthcpjcgjmdfpjaaDoor
open Go Go.ChangeShapes Go.WideShapes Go.ChangeAt Go.RowKit
set_option maxRecDepth 100000

theorem msgJunk_lifted (os : Os) (started : os.Started) (H : Type) (enc : TypeId × Value → H) :
    ReturnsInHanded {} Tryd.checked os 7 .any (fun w args => (Rows.msgJunkSpec.pre enc Tryd.prog Tryd.f7 [] false w args ∧ laidMetH Tryd.prog laidL w) ∧ sizedMet enc Tryd.prog Tryd.f7 (OpenSpec.ofChange Rows.msgJunkSpec) false w args)
      (Rows.msgJunkSpec.post enc Tryd.prog Tryd.f7 false true false false) := by
  refine law_lifted (s := Rows.msgJunkSpec) started Tryd.func7 (by kernel_rfl) rfl (by kernel_rfl) (by kernel_rfl) ?_ ?_
    (ChangeSpec.witness_shaped (enc := enc) (C := Tryd.checked) (os := os) (X := fun w _ => laidMetH Tryd.prog laidL w) false (World.laidAll Tryd.prog os laidL) #[.slice none 0 0] 8 (World.laidAll_os _ _ _)
      (World.shaped_of_ZipB (by kernel_rfl) (by kernel_rfl)) (by kernel_rfl) (by kernel_rfl) (by kernel_rfl)
      (by rw [MakeChecks.laidMetH_plain _ _ _ (by kernel_rfl)]; exact laidMet_laidAll _ (by kernel_rfl) (by kernel_rfl))) ?_
  · intro ds hl
    rw [show Tryd.f7.params.size = 1 by rw [Tryd.params7]; rfl] at hl
    obtain ⟨d0, rfl⟩ := list1 hl
    rfl
  · intro W vs ds ps h
    exact trodAll_len h
  intro W base args ds p hval hA hlt hw hG
  rw [Tryd.params7] at hA hval hw
  obtain ⟨v0, d0, rfl, rfl, h0⟩ := trodAll_one hA
  obtain ⟨A, m, c, bs, rfl, hS, hgl, hA0⟩ := open_bytesN (hval 0 36 v0 rfl rfl) h0
  exact msgJunk_any A m c bs W hS hgl hA0 hG

theorem msgJunk_joined : joinedFacts Tryd.prog 7 Tryd.f7 Rows.msgJunkSpec Rows.msgJunkRow = true :=
  joined_of seat_mayEnter seat_lifts seat_make rfl rfl rfl rfl (by kernel_rfl) (by kernel_rfl) (by kernel_rfl) (by kernel_rfl) (by kernel_rfl) (by kernel_rfl) (by kernel_rfl) (by kernel_rfl) (by kernel_rfl) (by kernel_rfl) (by kernel_rfl) (by kernel_rfl) (by kernel_rfl) (by kernel_rfl) (by kernel_rfl) (by kernel_rfl) (by kernel_rfl) (by kernel_rfl) (by kernel_rfl) (by kernel_rfl) (by kernel_rfl) (by kernel_rfl) (by kernel_rfl) (by kernel_rfl) (by kernel_rfl) (by kernel_rfl) (by kernel_rfl) (by kernel_rfl)
theorem msgJunk_holds : Rows.MsgJunkSaid :=
  OpenClaim.holds_of_wide 7 Tryd.f7 rfl rfl rfl rfl rfl rfl rfl ⟨rfl, rfl, rfl, rfl, rfl⟩ rfl rfl rfl rfl rfl (by kernel_rfl) Tryd.func7 msgJunk_joined
    (of_decide_eq_true (by kernel_rfl)) (by unfold Func.isWrapper; first | (rw [if_pos (by decide +kernel)]; kernel_rfl) | (rw [if_neg (by decide +kernel)]; exact ⟨rfl, rfl⟩))
    (fun os started H enc _ => msgJunk_lifted os started H enc)
theorem msgJunk_card : Rows.MsgJunkCardSaid :=
  Claim7.holds_tied_plain_at .later [] [.data] true (true, "6afa14409c1fcf784e159d3dd9af9e0af6fc07a3d3e06aa2c8b4c577951ca517") false msgJunk_holds (fun _ h => by cases h) (by kernel_rfl) (fun _ h => by cases h) msgJunk_row_tie rfl ⟨rfl, rfl⟩ seat_main rfl
    (fun f fn hf hfn => by
      obtain rfl : f = 7 := Option.some.inj ((show Tryd.prog.funcNamed "nomenclator/nomenclatorlaw04.MsgJunk" = some 7 by kernel_rfl).symm.trans hf) |>.symm
      obtain rfl : fn = Tryd.f7 := (Option.some.inj (Tryd.func7.symm.trans hfn)).symm
      exact ⟨by kernel_rfl, fun j t ht => by
        rw [Tryd.params7] at ht
        have hm : t ∈ [36] := by simpa using Array.mem_of_getElem? ht
        have hall : ([36].all fun u => !Tryd.prog.wantsStandIn u) = true := by kernel_rfl
        exact (show Tryd.prog.wantsStandIn t = false by simpa using List.all_eq_true.1 hall t hm)⟩)
    (by kernel_rfl)
end Go.Proofs.YthcpjcgjmdfpjaaDoor
