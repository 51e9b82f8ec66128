/- MsgCapitals: the statement MsgCapitals is proved (its card); no conditions. Here: MsgCaps, MsgCapitalsCard. -/
import Derived.Test.YthcpjcgjmdfpjaaDoorWordsMsg
import Derived.Test.YthcpjcgjmdfpjaaDoorWordsSeed
import Derived.Test.YthcpjcgjmdfpjaaDoorCoreB
import Derived.Test.YthcpjcgjmdfpjaaDoorCoreE
namespace Go.Proofs.YthcpjcgjmdfpjaaDoor
open Go Go.RowKit
set_option maxRecDepth 100000
set_option maxHeartbeats 4000000

theorem Sl.none {α : Type} {cells : α → List Value} {n : Nat} (w : World) : Sl cells n w none 0 ([] : List α) := ⟨rfl, fun h => absurd rfl h⟩
theorem quest_len {m : Msg} {bs : List UInt8} (hn : namesL m.qname = true) (ha : m.ans = []) (hu : m.auth = []) (hb : bs = enc m) : bs.length = 12 + m.qname.length + 2 + 4 := by
  rw [hb, enc_quest hn ha hu]
  simp only [List.length_append, head_len, nm_length, beN_length]
  omega
theorem ne_cap {b d : List UInt8} {m : Msg} (h : decode b = some m) (hc : CapL b d) : d ≠ [] := by
  intro e
  have h1 := decode_ge h
  have h2 := hc.1
  rw [e] at h2
  simp at h2; omega
theorem sub32 {x : UInt8} (h : 97 ≤ x.toNat) : (x - 32).toNat = x.toNat - 32 := by
  have h2 : (32 : UInt8).toNat = 32 := rfl
  rw [UInt8.toNat_sub_of_le _ _ (by rw [UInt8.le_iff_toNat_le, h2]; omega), h2]
theorem R.sub32 {l : Env} {w : World} {x : Operand} {t ty : TypeId} {P : Program} {c : UInt8} (hx : ev l x = some (u8v c)) (h : 97 ≤ c.toNat) : Runs P l (.binOp .sub t x (.const (.int .u8 32)) ty) w (u8v (c - 32)) w := by
  have h1 := c.toNat_lt
  have e : u8v (c - 32) = .int .u8 ((c.toNat : Int) - 32) := by unfold u8v; rw [Go.Proofs.YthcpjcgjmdfpjaaDoor.sub32 h]; congr 1; omega
  rw [e]
  exact R.bin hx rfl (by simp only [binOp, Op.intArith, ne_eq, not_true, ite_false, IntWalk.u8_in _ (show 0 ≤ (c.toNat : Int) - 32 ∧ (c.toNat : Int) - 32 ≤ 255 by omega)])
theorem cap_step {b d : List UInt8} {j : Nat} {x : UInt8} (h : CapL b d) (heq : ∀ (i : Nat) y, (i < 13 ∨ j ≤ i) → b[i]? = some y → d[i]? = some y) (hx : d[j]? = some x) (hj : 13 ≤ j) (h1 : 97 ≤ x.toNat) (h2 : x.toNat ≤ 122) :
    CapL b (d.set j (x - 32)) ∧ ∀ (i : Nat) y, (i < 13 ∨ j + 1 ≤ i) → b[i]? = some y → (d.set j (x - 32))[i]? = some y := by
  refine ⟨⟨by rw [List.length_set]; exact h.1, fun i y hy => ?_⟩, fun i y hi hy => ?_⟩
  · by_cases e : j = i
    · subst e
      have := heq j y (.inr (Nat.le_refl _)) hy
      rw [hx] at this
      obtain rfl := Option.some.inj this
      refine ⟨x - 32, by rw [List.getElem?_set_self ((List.getElem?_eq_some_iff.1 hx).1)], .inr ⟨h1, h2, ?_⟩⟩
      rw [sub32 h1]; omega
    · rw [List.getElem?_set_ne e]; exact h.2 i y hy
  · rw [List.getElem?_set_ne (by omega)]
    exact heq i y (by omega) hy
theorem msgCapitals_any (id : Int) (A : Option Addr) (m c : Nat) (l : List SeedV) (at_ : Int) (w0 : World) (hL : Sl SeedV.cells 20 w0 A m l) (hO : ∀ s ∈ l, s.Ok) (hmc : m ≤ c) (hcm : c ≤ maxLen) (hG : Glob w0) : Calls Tryd.prog 19 #[.int .i64 id, .slice A m c, .int .i64 at_] w0 fun e w' => e = .returned (.bool true) ∧ Chg (fun _ => False) w0 w' := by
  have hC := Chg.refl (fun _ => False) w0
  have hlm := hL.1
  have hmx : maxLen = 9223372036854775807 := rfl
  refine calls_cw (args := [.int .i64 id, .slice A m c, .int .i64 at_]) Tryd.func19 rfl rfl ?_
  show CW _ _ _ 79 [(0, .int .i64 id), (1, .slice A m c), (2, .int .i64 at_)] w0
  refine CW.rseq ?_
  refine WL.op (by decide) (R.assign rfl) ?_
  refine WL.next ?_
  refine CW.seq ?_
  refine CW.rseq ?_
  refine WL.eff rfl (OP.call (by decide) Tryd.func29 (by kernel_rfl) (by kernel_rfl) rfl (fit04_any _ (hG.keep0 hC)) ?_)
  rintro ed w1 ⟨rfl, hc_w1⟩
  refine ⟨_, rfl, ?_⟩
  have hC := hC.trans hc_w1
  have hz_w1 := hc_w1.size
  refine WL.op (by decide) (R.not rfl) ?_
  refine WL.next ?_
  refine CW.condF rfl ?_
  refine CW.skip ?_
  refine EW.next ?_
  refine CW.seq ?_
  refine CW.rseq ?_
  refine WL.op (by decide) (R.move rfl) ?_
  refine WL.eff rfl (OP.call (by decide) Tryd.func36 (by kernel_rfl) (by kernel_rfl) rfl (light_any _ _ _ _ _ (hL.keep0 hC) hO (by omega)) ?_)
  rintro ed w2 ⟨rfl, hc_w2⟩
  have hC := hC.trans hc_w2
  have hz_w2 := hc_w2.size
  cases hli : lightS l
  · skip
    refine ⟨_, rfl, ?_⟩
    refine WL.op (by decide) (R.not rfl) ?_
    refine WL.op (by decide) (R.move rfl) ?_
    refine WL.pass (by decide) rfl rfl rfl ?_
    refine WL.pass (by decide) rfl rfl rfl ?_
    refine WL.pass (by decide) rfl rfl rfl ?_
    refine WL.op (by decide) (R.pickT rfl rfl) ?_
    refine WL.next ?_
    refine CW.condT rfl ?_
    refine CW.rseq ?_
    refine WL.op (by decide) (R.assign rfl) ?_
    refine WL.next ?_
    refine CW.ret ?_
    refine EW.thenRet ?_
    exact EW.ret1 (.inl rfl) rfl rfl ⟨rfl, hC⟩
  · skip
    refine ⟨_, rfl, ?_⟩
    refine WL.op (by decide) (R.not rfl) ?_
    refine WL.op (by decide) (R.move rfl) ?_
    refine WL.gop (by decide) rfl rfl rfl (R.move rfl) ?_
    refine WL.gop (by decide) rfl rfl rfl (R.lenSlice rfl Tryd.underlying48 rfl) ?_
    refine WL.gsplit _ (by decide) rfl rfl rfl (R.eqlD rfl rfl) (fun h1 => ?_) (fun h1 => ?_)
    · skip
      refine WL.op (by decide) (R.pickF rfl rfl) ?_
      refine WL.next ?_
      refine CW.condT rfl ?_
      refine CW.rseq ?_
      refine WL.op (by decide) (R.assign rfl) ?_
      refine WL.next ?_
      refine CW.ret ?_
      refine EW.thenRet ?_
      exact EW.ret1 (.inl rfl) rfl rfl ⟨rfl, hC⟩
    · skip
      refine WL.op (by decide) (R.pickF rfl rfl) ?_
      refine WL.next ?_
      refine CW.condF rfl ?_
      refine CW.skip ?_
      refine EW.next ?_
      refine CW.rseq ?_
      obtain ⟨q, hq⟩ : ∃ q, l[0]? = some q := ⟨l[0]'(by omega), List.getElem?_eq_getElem _⟩
      obtain ⟨_, g0, o0, hA0, _⟩ := (hL.keep0 hC).at hq
      subst hA0
      have hq16 := (hO q (List.mem_of_getElem? hq)).a
      refine WL.op (by decide) (R.move rfl) ?_
      refine WL.op (by decide) (R.move rfl) ?_
      refine WL.op (by decide) (R.indexAddr1 (i := 0) Tryd.underlying48 sz50 rfl rfl rfl (by omega)) ?_
      refine WL.op (by decide) (R.loadSdAt hq16 rfl ((hL.keep0 hC).cellsAt hq)) ?_
      refine WL.eff rfl (OP.call (by decide) Tryd.func28 (by kernel_rfl) (by kernel_rfl) rfl (message_any _ _ _ _ _ _ [] _ (hO _ (List.mem_of_getElem? hq)) (Sl.none _) (fun _ h => by cases h) (by omega)) ?_)
      rintro ed w3 ⟨hc_w3, vM, rfl, vaM, vbM, rfl, hvaM, hvbM, hoaM, hobM⟩
      obtain ⟨AaM, caM, rfl, _⟩ := hvaM.form
      obtain ⟨AbM, cbM, rfl, _⟩ := hvbM.form
      obtain ⟨M, hM0⟩ : ∃ M, M = msgS id 1 q [] := ⟨_, rfl⟩
      have hbM : MBack M := by rw [hM0]; exact MBack.seeds (fun _ h => by cases h)
      rw [← hM0] at hvaM hvbM hoaM hobM ⊢
      refine ⟨_, rfl, ?_⟩
      have hC := hC.trans hc_w3
      have hz_w3 := hc_w3.size
      have hK3 : Chg (fun _ => False) w3 w3 := Chg.refl _ _
      refine WL.eff rfl (OP.allocM (by decide) ?_)
      intro w4 hc_w4 hs_w4 hB7
      obtain ⟨b7, he_b7⟩ : ∃ b, b = w3.heap.size := ⟨_, rfl⟩
      rw [← he_b7] at hB7 ⊢
      have hC := hC.trans hc_w4
      have hK3 := hK3.trans hc_w4
      have hz_w4 := hc_w4.size
      refine WL.eff rfl (OP.storeM rfl rfl hB7 ?_)
      intro w5 hc_w5 hs_w5 hB7
      have hC := hC.thenB hc_w5 (by omega)
      have hK3 := hK3.thenB hc_w5 (by omega)
      refine WL.next ?_
      refine CW.rseq ?_
      refine WL.op (by decide) (R.loadM rfl hB7) ?_
      refine WL.eff rfl (OP.call (by decide) Tryd.func24 (by kernel_rfl) (by kernel_rfl) rfl (encode_src _ _ _ ⟨_, _, rfl, (hvaM.keep0 hK3), (hvbM.keep0 hK3)⟩ (hbM)) ?_)
      rintro ed w6 ⟨gE, ceE, bsE, rfl, hbsE, hBufE, hSrcE, hmoreE, hdecE, hblE, hgeE, hglE, hc_w6⟩
      refine ⟨_, rfl, ?_⟩
      have hB7 := hc_w6.at hB7 (fun e => e)
      have hC := hC.trans hc_w6
      have hK3 := hK3.trans hc_w6
      have hz_w6 := hc_w6.size
      have hK6 : Chg (fun _ => False) w6 w6 := Chg.refl _ _
      refine WL.op (by decide) (R.assign rfl) ?_
      refine WL.next ?_
      refine CW.rseq ?_
      have hMq := (names_len (all_parts hbM.all).2.2.2.2.1).1
      have hMa : M.ans = [] := by rw [hM0]; rfl
      have hMu : M.auth = [] := by rw [hM0]; rfl
      have hble := quest_len (all_parts hbM.all).2.2.2.2.1 hMa hMu hbsE
      refine WL.op (by decide) (FA33_5 rfl) ?_
      refine WL.op (by decide) (FA25_0 rfl) ?_
      refine WL.op (by decide) (R.load Tryd.underlying9 rfl rfl (cell_at hB7 rfl)) ?_
      refine WL.op (by decide) (R.lenS rfl rfl) ?_
      refine WL.op (by decide) (R.add rfl rfl (by omega)) ?_
      refine WL.op (by decide) (R.add rfl rfl (by omega)) ?_
      refine WL.op (by decide) (R.assign rfl) ?_
      refine WL.next ?_
      refine CW.seq ?_
      refine CW.rseq ?_
      refine WL.op (by decide) (R.assign rfl) ?_
      refine WL.next ?_
      refine CW.block ?_
      refine CW.loopK [2, 7, 8, 9, 10] (fun k le wr => Chg (fun _ => False) w0 wr ∧ Chg (fun _ => False) w3 wr ∧ ∃ (j : Nat) (jj : Int) (bs : List UInt8), j + k = 12 + M.qname.length + 1 ∧ 13 ≤ j ∧ jj = (j : Int) ∧ le = [(2, .int .i64 at_), (7, .pointer (some ⟨b7, 0, none⟩)), (8, .slice (some ⟨gE, 0, none⟩) bsE.length ceE), (9, .int .i64 (12 + (M.qname.length : Int) + 1)), (10, .int .i64 jj)] ∧ BM wr b7 M (.slice AaM M.ans.length caM) (.slice AbM M.auth.length cbM) ∧ Buf wr 0 (.slice (some ⟨gE, 0, none⟩) bsE.length ceE) bs ∧ CapL bsE bs ∧ (∀ (i : Nat) x, (i < 13 ∨ j ≤ i) → bsE[i]? = some x → bs[i]? = some x) ∧ gE < wr.heap.size) (M.qname.length) ?_ ?_
      · exact ⟨hC, hK3, 13, 13, bsE, by omega, by omega, rfl, rfl, hB7, (hBufE.keep0 hK6).mono (Nat.zero_le _), ⟨rfl, fun i x hx => ⟨x, hx, .inl rfl⟩⟩, fun i x _ hx => hx, by omega⟩
      · rintro k le wr ⟨hC, hK3, j, jj, bs, hk, hj13, rfl, rfl, hB7, hBf, hcap, heq, hgw⟩
        have hcl := hcap.1
        have hz_hC := hC.size
        have hz_hK3 := hK3.size
        refine CW.seq ?_
        refine CW.rseq ?_
        refine WL.op (by decide) (R.move rfl) ?_
        refine WL.op (by decide) (R.move rfl) ?_
        refine WL.lssS (by decide) rfl rfl (fun h2 => ?_) (fun h2 => ?_)
        · skip
          refine WL.next ?_
          refine CW.condT rfl ?_
          refine CW.skip ?_
          refine EW.next ?_
          refine CW.seq ?_
          refine CW.block ?_
          refine CW.rseq ?_
          refine WL.op (by decide) (R.move rfl) ?_
          refine WL.op (by decide) (R.move rfl) ?_
          obtain ⟨x, hx⟩ : ∃ x, bs[j]? = some x := ⟨bs[j]'(by omega), List.getElem?_eq_getElem _⟩
          refine WL.op (by decide) (R.indexAddr1 (i := j) Tryd.underlying36 sz5 rfl rfl rfl (by omega)) ?_
          refine WL.op (by decide) (R.load Tryd.underlying5 rfl rfl (by rw [Nat.zero_add, Nat.mul_one]; exact hBf.cell hx)) ?_
          refine WL.geqS (by decide) rfl rfl (fun h3 => ?_) (fun h3 => ?_)
          · skip
            refine WL.op (by decide) (R.move rfl) ?_
            refine WL.gop (by decide) rfl rfl rfl (R.move rfl) ?_
            refine WL.gop (by decide) rfl rfl rfl (R.move rfl) ?_
            refine WL.gop (by decide) rfl rfl rfl (R.indexAddr1 (i := j) Tryd.underlying36 sz5 rfl rfl rfl (by omega)) ?_
            refine WL.gop (by decide) rfl rfl rfl (R.load Tryd.underlying5 rfl rfl (by rw [Nat.zero_add, Nat.mul_one]; exact hBf.cell hx)) ?_
            refine WL.gsplit _ (by decide) rfl rfl rfl (R.leqD rfl rfl) (fun h4 => ?_) (fun h4 => ?_)
            · skip
              refine WL.op (by decide) (R.pickT rfl rfl) ?_
              refine WL.op (by decide) (R.move rfl) ?_
              refine WL.gop (by decide) rfl rfl rfl (R.move rfl) ?_
              refine WL.gop (by decide) rfl rfl rfl (R.move rfl) ?_
              refine WL.gop (by decide) rfl rfl rfl (R.mask 5 rfl rfl (by decide) rfl rfl) ?_
              refine WL.gop (by decide) rfl rfl rfl (R.shr rfl rfl (by omega)) ?_
              refine WL.gop (by decide) rfl rfl rfl (R.mask 1 rfl rfl (by decide) rfl rfl) ?_
              refine WL.gsplit _ (by decide) rfl rfl rfl (R.eqlD rfl rfl) (fun h5 => ?_) (fun h5 => ?_)
              · skip
                refine WL.op (by decide) (R.pickT rfl rfl) ?_
                refine WL.next ?_
                refine CW.condT rfl ?_
                refine CW.region ?_
                refine WL.op (by decide) (R.move rfl) ?_
                refine WL.op (by decide) (R.move rfl) ?_
                refine WL.op (by decide) (R.indexAddr1 (i := j) Tryd.underlying36 sz5 rfl rfl rfl (by omega)) ?_
                refine WL.op (by decide) (R.load Tryd.underlying5 rfl rfl (by rw [Nat.zero_add, Nat.mul_one]; exact hBf.cell hx)) ?_
                refine WL.op (by decide) (R.sub32 rfl (by omega)) ?_
                refine WL.op (by decide) (R.indexAddr1 (i := j) Tryd.underlying36 sz5 rfl rfl rfl (by omega)) ?_
                refine WL.eff rfl (OP.setB (j := j) hBf rfl rfl rfl (by omega) ?_)
                intro w7 hc_w7 hs_w7 hBf
                obtain ⟨hcap, heq⟩ := cap_step hcap heq hx hj13 (by omega) (by omega)
                have hB7 := hc_w7.at hB7 (fun e => by omega)
                have hC := hC.thenB hc_w7 (by omega)
                have hK3 := hK3.thenB hc_w7 (by omega)
                refine WL.nil ?_
                refine EW.inNormal ?_
                refine EW.next ?_
                refine CW.region ?_
                refine WL.op (by decide) (R.move rfl) ?_
                refine WL.op (by decide) (R.add rfl rfl (by omega)) ?_
                refine WL.op (by decide) (R.assign rfl) ?_
                refine WL.nil ?_
                exact EW.roundK [2, 7, 8, 9, 10] (k - 1) (by omega) ⟨hC, hK3, j + 1, _, _, by omega, by omega, by omega, rfl, hB7, hBf, hcap, heq, by omega⟩
              · skip
                refine WL.op (by decide) (R.pickT rfl rfl) ?_
                refine WL.next ?_
                refine CW.condF rfl ?_
                refine CW.skip ?_
                refine EW.inNormal ?_
                refine EW.next ?_
                refine CW.region ?_
                refine WL.op (by decide) (R.move rfl) ?_
                refine WL.op (by decide) (R.add rfl rfl (by omega)) ?_
                refine WL.op (by decide) (R.assign rfl) ?_
                refine WL.nil ?_
                exact EW.roundK [2, 7, 8, 9, 10] (k - 1) (by omega) ⟨hC, hK3, j + 1, _, _, by omega, by omega, by omega, rfl, hB7, hBf, hcap, fun i x hi hx => heq i x (by omega) hx, by omega⟩
            · skip
              refine WL.op (by decide) (R.pickT rfl rfl) ?_
              refine WL.op (by decide) (R.move rfl) ?_
              refine WL.pass (by decide) rfl rfl rfl ?_
              refine WL.pass (by decide) rfl rfl rfl ?_
              refine WL.pass (by decide) rfl rfl rfl ?_
              refine WL.pass (by decide) rfl rfl rfl ?_
              refine WL.pass (by decide) rfl rfl rfl ?_
              refine WL.pass (by decide) rfl rfl rfl ?_
              refine WL.op (by decide) (R.pickF rfl rfl) ?_
              refine WL.next ?_
              refine CW.condF rfl ?_
              refine CW.skip ?_
              refine EW.inNormal ?_
              refine EW.next ?_
              refine CW.region ?_
              refine WL.op (by decide) (R.move rfl) ?_
              refine WL.op (by decide) (R.add rfl rfl (by omega)) ?_
              refine WL.op (by decide) (R.assign rfl) ?_
              refine WL.nil ?_
              exact EW.roundK [2, 7, 8, 9, 10] (k - 1) (by omega) ⟨hC, hK3, j + 1, _, _, by omega, by omega, by omega, rfl, hB7, hBf, hcap, fun i x hi hx => heq i x (by omega) hx, by omega⟩
          · skip
            refine WL.op (by decide) (R.move rfl) ?_
            refine WL.pass (by decide) rfl rfl rfl ?_
            refine WL.pass (by decide) rfl rfl rfl ?_
            refine WL.pass (by decide) rfl rfl rfl ?_
            refine WL.pass (by decide) rfl rfl rfl ?_
            refine WL.pass (by decide) rfl rfl rfl ?_
            refine WL.op (by decide) (R.pickF rfl rfl) ?_
            refine WL.op (by decide) (R.move rfl) ?_
            refine WL.pass (by decide) rfl rfl rfl ?_
            refine WL.pass (by decide) rfl rfl rfl ?_
            refine WL.pass (by decide) rfl rfl rfl ?_
            refine WL.pass (by decide) rfl rfl rfl ?_
            refine WL.pass (by decide) rfl rfl rfl ?_
            refine WL.pass (by decide) rfl rfl rfl ?_
            refine WL.op (by decide) (R.pickF rfl rfl) ?_
            refine WL.next ?_
            refine CW.condF rfl ?_
            refine CW.skip ?_
            refine EW.inNormal ?_
            refine EW.next ?_
            refine CW.region ?_
            refine WL.op (by decide) (R.move rfl) ?_
            refine WL.op (by decide) (R.add rfl rfl (by omega)) ?_
            refine WL.op (by decide) (R.assign rfl) ?_
            refine WL.nil ?_
            exact EW.roundK [2, 7, 8, 9, 10] (k - 1) (by omega) ⟨hC, hK3, j + 1, _, _, by omega, by omega, by omega, rfl, hB7, hBf, hcap, fun i x hi hx => heq i x (by omega) hx, by omega⟩
        · skip
          refine WL.next ?_
          refine CW.condF rfl ?_
          refine CW.exit ?_
          refine EW.thenExit ?_
          refine EW.thenExit ?_
          refine EW.inHere ?_
          refine EW.next ?_
          refine CW.rseq ?_
          refine WL.op (by decide) (R.move rfl) ?_
          refine WL.eff rfl (OP.call (by decide) Tryd.func27 (by kernel_rfl) (by kernel_rfl) rfl (decode_any _ _ _ _ _ (hBf.toSrc (ne_cap hdecE hcap)) (by rintro _ _ ⟨⟩; omega) (by omega) (hG.keep0 hC)) ?_)
          rintro ed w8 ⟨hc_w8, hres⟩
          rw [(caps_read hbM hMa hMu (hbsE ▸ hcap) (fun i x hi hx2 => heq i x (by omega) (hbsE ▸ hx2)))] at hres
          obtain ⟨vD, rfl, vaD, vbD, rfl, hvaD, hvbD, hoaD, hobD⟩ := hres
          obtain ⟨AaD, caD, rfl, _⟩ := hvaD.form
          obtain ⟨AbD, cbD, rfl, _⟩ := hvbD.form
          have hlenD := len_dec (caps_read hbM hMa hMu (hbsE ▸ hcap) (fun i x hi hx2 => heq i x (by omega) (hbsE ▸ hx2)))
          refine ⟨_, rfl, ?_⟩
          have hB7 := hc_w8.at hB7 (fun e => e)
          have hC := hC.trans hc_w8
          have hK3 := hK3.trans hc_w8
          have hz_w8 := hc_w8.size
          have hK8 : Chg (fun _ => False) w8 w8 := Chg.refl _ _
          refine WL.op (by decide) (R.move rfl) ?_
          refine WL.op (by decide) (R.extract rfl rfl) ?_
          refine WL.op (by decide) (R.extract rfl rfl) ?_
          refine WL.eff rfl (OP.allocM (by decide) ?_)
          intro w9 hc_w9 hs_w9 hB11
          obtain ⟨b11, he_b11⟩ : ∃ b, b = w8.heap.size := ⟨_, rfl⟩
          rw [← he_b11] at hB11 ⊢
          have hB7 := hc_w9.at hB7 (fun e => e)
          have hC := hC.trans hc_w9
          have hK3 := hK3.trans hc_w9
          have hK8 := hK8.trans hc_w9
          have hz_w9 := hc_w9.size
          refine WL.eff rfl (OP.storeM rfl rfl hB11 ?_)
          intro w10 hc_w10 hs_w10 hB11
          have hB7 := hc_w10.at hB7 (fun e => by omega)
          have hC := hC.thenB hc_w10 (by omega)
          have hK3 := hK3.thenB hc_w10 (by omega)
          have hK8 := hK8.thenB hc_w10 (by omega)
          refine WL.op (by decide) (R.assign rfl) ?_
          refine WL.next ?_
          refine CW.rseq ?_
          refine WL.op (by decide) (R.move rfl) ?_
          refine WL.op (by decide) (R.eql rfl rfl (decide_eq_true (rfl))) ?_
          refine WL.op (by decide) (R.move rfl) ?_
          refine WL.gop (by decide) rfl rfl rfl (R.loadM rfl hB11) ?_
          refine WL.gop (by decide) rfl rfl rfl (R.loadM rfl hB7) ?_
          refine WL.geff rfl rfl rfl (OP.call (by decide) Tryd.func25 (by kernel_rfl) (by kernel_rfl) rfl (same_any _ _ _ _ _ ⟨_, _, rfl, (hvaD.keep0 hK8), (hvbD.keep0 hK8)⟩ ⟨_, _, rfl, (hvaM.keep0 hK3), (hvbM.keep0 hK3)⟩ hlenD.1 hlenD.2) ?_)
          rintro ed w11 ⟨rfl, hc_w11⟩
          rw [sameM_self]
          refine ⟨_, rfl, ?_⟩
          have hB7 := hc_w11.at hB7 (fun e => e)
          have hB11 := hc_w11.at hB11 (fun e => e)
          have hC := hC.trans hc_w11
          have hK3 := hK3.trans hc_w11
          have hK8 := hK8.trans hc_w11
          have hz_w11 := hc_w11.size
          refine WL.op (by decide) (R.pickT rfl rfl) ?_
          refine WL.op (by decide) (R.assign rfl) ?_
          refine WL.next ?_
          refine CW.ret ?_
          exact EW.ret1 (.inl rfl) rfl rfl ⟨rfl, hC⟩
end Go.Proofs.YthcpjcgjmdfpjaaDoor

namespace Go.Proofs.YthcpjcgjmdfpjaaDoor
open Go Go.ChangeShapes Go.WideShapes Go.ChangeAt Go.RowKit
set_option maxRecDepth 100000

theorem msgCapitals_lifted (os : Os) (started : os.Started) (H : Type) (enc : TypeId × Value → H) :
    ReturnsInHanded {} Tryd.checked os 19 .any (fun w args => (Rows.msgCapitalsSpec.pre enc Tryd.prog Tryd.f19 [] false w args ∧ laidMetH Tryd.prog laidL w) ∧ sizedMet enc Tryd.prog Tryd.f19 (OpenSpec.ofChange Rows.msgCapitalsSpec) false w args)
      (Rows.msgCapitalsSpec.post enc Tryd.prog Tryd.f19 false true false false) := by
  refine law_lifted (s := Rows.msgCapitalsSpec) started Tryd.func19 (by kernel_rfl) rfl (by kernel_rfl) (by kernel_rfl) ?_ ?_
    (ChangeSpec.witness_shaped (enc := enc) (C := Tryd.checked) (os := os) (X := fun w _ => laidMetH Tryd.prog laidL w) false (World.laidAll Tryd.prog os laidL) #[.int .i64 0, .slice none 0 0, .int .i64 0] 8 (World.laidAll_os _ _ _)
      (World.shaped_of_ZipB (by kernel_rfl) (by kernel_rfl)) (by kernel_rfl) (by kernel_rfl) (by kernel_rfl)
      (by rw [MakeChecks.laidMetH_plain _ _ _ (by kernel_rfl)]; exact laidMet_laidAll _ (by kernel_rfl) (by kernel_rfl))) ?_
  · intro ds hl
    rw [show Tryd.f19.params.size = 3 by rw [Tryd.params19]; rfl] at hl
    obtain ⟨d0, d1, d2, rfl⟩ := list3 hl
    rfl
  · intro W vs ds ps h
    exact trodAll_len h
  intro W base args ds p hval hA hlt hw hG
  rw [Tryd.params19] at hA hval hw
  obtain ⟨v0, v1, v2, d0, d1, d2, p0, p1, p2, rfl, rfl, rfl, h0, h1, h2⟩ := trodAll_three hA
  obtain ⟨id, rfl, rfl, rfl, _⟩ := open_int Tryd.underlying3 (hval 0 3 v0 rfl rfl) h0
  obtain ⟨A, m, c, l, rfl, hmc, hcm, hL, hO⟩ := open_seeds (hval 1 48 v1 rfl rfl) h1
  obtain ⟨n, rfl, rfl, rfl, _⟩ := open_int Tryd.underlying3 (hval 2 3 v2 rfl rfl) h2
  exact msgCapitals_any id A m c l n W hL hO hmc hcm hG

theorem msgCapitals_joined : joinedFacts Tryd.prog 19 Tryd.f19 Rows.msgCapitalsSpec Rows.msgCapitalsRow = true :=
  joined_of seat_mayEnter seat_lifts seat_make rfl rfl rfl rfl (by kernel_rfl) (by kernel_rfl) (by kernel_rfl) (by kernel_rfl) (by kernel_rfl) (by kernel_rfl) (by kernel_rfl) (by kernel_rfl) (by kernel_rfl) (by kernel_rfl) (by kernel_rfl) (by kernel_rfl) (by kernel_rfl) (by kernel_rfl) (by kernel_rfl) (by kernel_rfl) (by kernel_rfl) (by kernel_rfl) (by kernel_rfl) (by kernel_rfl) (by kernel_rfl) (by kernel_rfl) (by kernel_rfl) (by kernel_rfl) (by kernel_rfl) (by kernel_rfl) (by kernel_rfl) (by kernel_rfl)
theorem msgCapitals_holds : Rows.MsgCapitalsSaid :=
  OpenClaim.holds_of_wide 19 Tryd.f19 rfl rfl rfl rfl rfl rfl rfl ⟨rfl, rfl, rfl, rfl, rfl⟩ rfl rfl rfl rfl rfl (by kernel_rfl) Tryd.func19 msgCapitals_joined
    (of_decide_eq_true (by kernel_rfl)) (by unfold Func.isWrapper; first | (rw [if_pos (by decide +kernel)]; kernel_rfl) | (rw [if_neg (by decide +kernel)]; exact ⟨rfl, rfl⟩))
    (fun os started H enc _ => msgCapitals_lifted os started H enc)
theorem msgCapitals_card : Rows.MsgCapitalsCardSaid :=
  Claim7.holds_tied_plain_at .later [] [.data] true (true, "6afa14409c1fcf784e159d3dd9af9e0af6fc07a3d3e06aa2c8b4c577951ca517") false msgCapitals_holds (fun _ h => by cases h) (by kernel_rfl) (fun _ h => by cases h) msgCapitals_row_tie rfl ⟨rfl, rfl⟩ seat_main rfl
    (fun f fn hf hfn => by
      obtain rfl : f = 19 := Option.some.inj ((show Tryd.prog.funcNamed "nomenclator/nomenclatorlaw04.MsgCapitals" = some 19 by kernel_rfl).symm.trans hf) |>.symm
      obtain rfl : fn = Tryd.f19 := (Option.some.inj (Tryd.func19.symm.trans hfn)).symm
      exact ⟨by kernel_rfl, fun j t ht => by
        rw [Tryd.params19] at ht
        have hm : t ∈ [3, 48, 3] := by simpa using Array.mem_of_getElem? ht
        have hall : ([3, 48, 3].all fun u => !Tryd.prog.wantsStandIn u) = true := by kernel_rfl
        exact (show Tryd.prog.wantsStandIn t = false by simpa using List.all_eq_true.1 hall t hm)⟩)
    (by kernel_rfl)
end Go.Proofs.YthcpjcgjmdfpjaaDoor
