/- Words, contracts and walks that several statements share (CoreF): Fit04, SeedOps. -/
import Derived.Test.YthcpjcgjmdfpjaaDoorCoreE
namespace Go.Proofs.YthcpjcgjmdfpjaaDoor
open Go Go.RowKit
set_option maxRecDepth 100000
set_option maxHeartbeats 4000000

theorem Src.cellAt {w : World} {g m c j : Nat} {bs : List UInt8} {b : UInt8} (h : Src w (some ⟨g, 0, none⟩) m c bs) (hj : bs[j]? = some b) : w.cell? ⟨g, 0 + j * 1, none⟩ = some (u8v b) := by
  have hlt := (List.getElem?_eq_some_iff.1 hj).1
  obtain ⟨g2, o, hA, hc⟩ := h.cells (by have := h.len; omega)
  have hA2 := Option.some.inj hA
  injection hA2 with e1 e2
  subst e1 e2
  rw [Nat.mul_one]; exact hc j b hj
theorem Src.keepB {w w' : World} {g o b m c : Nat} {bs : List UInt8} (h : Src w (some ⟨g, o, none⟩) m c bs) (hc : Chg (fun k => k = b) w w') (hne : g ≠ b) : Src w' (some ⟨g, o, none⟩) m c bs := by
  refine h.kept hc (fun g2 o2 e e2 => ?_)
  have e3 := Option.some.inj e
  injection e3 with e4
  exact hne (e4.trans e2)
theorem Buf.keepB {w w' : World} {base g o b m c : Nat} {bs : List UInt8} (h : Buf w base (.slice (some ⟨g, o, none⟩) m c) bs) (hc : Chg (fun k => k = b) w w') (hne : g ≠ b) : Buf w' base (.slice (some ⟨g, o, none⟩) m c) bs :=
  h.kept hc (fun _k e e2 => hne ((Option.some.inj e).trans e2))
theorem build33_05 (id : Int) (s : List UInt8) (t : Int) (w : World) : (Instr.build 33 #[(0, .int .i64 id), (5, .agg #[sv s, .int .i64 t])]).run Tryd.prog w = .ok (.agg (Msg.cells ⟨id, false, false, false, 0, s, t, [], []⟩ (.slice none 0 0) (.slice none 0 0)).toArray) w := by unfold sv; kernel_rfl
theorem count_one (s : List UInt8) (c : UInt8) (w0 : World) : Calls Tryd.prog 54 #[sv s, sv [c]] w0 fun e w' => e = .returned (.int .i64 ((Lib.countByte s c : Nat) : Int)) ∧ w0 = w' := by
  refine calls_cw (args := [sv s, sv [c]]) Tryd.func54 rfl rfl ?_
  show CW _ _ _ 34 [(0, sv s), (1, sv [c])] w0
  refine CW.rseq ?_
  refine WL.op (by decide) (R.assign rfl) ?_
  refine WL.next ?_
  refine CW.seq ?_
  refine CW.rseq ?_
  refine WL.op (by decide) (R.move rfl) ?_
  refine WL.op (by decide) (R.lenS rfl rfl) ?_
  refine WL.op (by decide) (R.eql rfl rfl (decide_eq_false (by simp))) ?_
  refine WL.next ?_
  refine CW.condF rfl ?_
  refine CW.skip ?_
  refine EW.next ?_
  refine CW.seq ?_
  refine CW.rseq ?_
  refine WL.op (by decide) (R.move rfl) ?_
  refine WL.op (by decide) (R.lenS rfl rfl) ?_
  refine WL.op (by decide) (R.eql rfl rfl (decide_eq_true (rfl))) ?_
  refine WL.next ?_
  refine CW.condT rfl ?_
  refine CW.rseq ?_
  refine WL.op (by decide) (R.move rfl) ?_
  refine WL.op (by decide) (R.move rfl) ?_
  refine WL.op (by decide) (R.indexS (i := 0) rfl rfl rfl rfl) ?_
  refine WL.op (by decide) (R.countStr rfl rfl) ?_
  refine WL.op (by decide) (R.assign rfl) ?_
  refine WL.next ?_
  refine CW.ret ?_
  refine EW.thenRet ?_
  exact EW.ret1 (.inl rfl) rfl rfl ⟨rfl, rfl⟩
theorem dots_any (s : List UInt8) (w0 : World) : Calls Tryd.prog 49 #[sv s] w0 fun e w' => e = .returned (.int .i64 ((Lib.countByte s 46 : Nat) : Int)) ∧ w0 = w' := by
  refine calls_cw (args := [sv s]) Tryd.func49 rfl rfl ?_
  show CW _ _ _ 5 [(0, sv s)] w0
  refine CW.rseq ?_
  refine WL.op (by decide) (R.assign rfl) ?_
  refine WL.next ?_
  refine CW.rseq ?_
  refine WL.op (by decide) (R.move rfl) ?_
  refine WL.eff rfl (OP.call (by decide) Tryd.func54 (by kernel_rfl) (by kernel_rfl) rfl (count_one _ _ _) ?_)
  rintro ed _ ⟨rfl, rfl⟩
  refine ⟨_, rfl, ?_⟩
  refine WL.op (by decide) (R.assign rfl) ?_
  refine WL.next ?_
  refine CW.ret ?_
  exact EW.ret1 (.inl rfl) rfl rfl ⟨rfl, rfl⟩
theorem fit04_any (w0 : World) (hG : Glob w0) : Calls Tryd.prog 29 #[] w0 fun e w' => e = .returned (.bool true) ∧ Chg (fun _ => False) w0 w' := by
  have hC := Chg.refl (fun _ => False) w0
  refine calls_cw (args := []) Tryd.func29 rfl rfl ?_
  show CW _ _ _ 47 [] w0
  refine CW.rseq ?_
  refine WL.op (by decide) (R.assign rfl) ?_
  refine WL.next ?_
  refine CW.rseq ?_
  refine WL.op (by decide) (R.build (parts := [(0, _), (1, _)]) (vals := [(0, _), (1, _)]) rfl (fun w => build25_2 [97] 1 w)) ?_
  refine WL.op (by decide) (R.build (parts := [(0, _), (5, _)]) (vals := [(0, _), (5, _)]) rfl (fun w => build33_05 258 [97] 1 w)) ?_
  refine WL.eff rfl (OP.allocM (by decide) ?_)
  intro w1 hc_w1 hs_w1 hB1
  obtain ⟨b1, he_b1⟩ : ∃ b, b = w0.heap.size := ⟨_, rfl⟩
  rw [← he_b1] at hB1 ⊢
  have hC := hC.trans hc_w1
  have hz_w1 := hc_w1.size
  refine WL.eff rfl (OP.storeM rfl rfl hB1 ?_)
  intro w2 hc_w2 hs_w2 hB1
  have hC := hC.thenB hc_w2 (by omega)
  refine WL.next ?_
  refine CW.rseq ?_
  refine WL.op (by decide) (R.loadM rfl hB1) ?_
  refine WL.eff rfl (OP.call (by decide) Tryd.func24 (by kernel_rfl) (by kernel_rfl) rfl (encode_src _ _ _ ⟨_, _, rfl, (RSl.nil _), (RSl.nil _)⟩ (MBack.quest (by decide) (by decide) (by kernel_rfl) (by decide))) ?_)
  rintro ed w3 ⟨gE, ceE, bsE, rfl, hbsE, hBufE, hSrcE, hmoreE, hdecE, hblE, hgeE, hglE, hc_w3⟩
  refine ⟨_, rfl, ?_⟩
  have hB1 := hc_w3.at hB1 (fun e => e)
  have hC := hC.trans hc_w3
  have hz_w3 := hc_w3.size
  have hK3 : Chg (fun _ => False) w3 w3 := Chg.refl _ _
  have hbe : bsE = [1, 2, 0, 0, 0, 1, 0, 0, 0, 0, 0, 0, 1, 97, 0, 0, 1, 0, 1] := hbsE.trans (by kernel_rfl)
  refine WL.op (by decide) (R.assign rfl) ?_
  refine WL.next ?_
  refine CW.rseq ?_
  refine WL.op (by decide) (R.move rfl) ?_
  refine WL.eff rfl (OP.call (by decide) Tryd.func27 (by kernel_rfl) (by kernel_rfl) rfl (decode_any _ _ _ _ _ (hSrcE.keep0 hK3) (by rintro _ _ ⟨⟩; omega) (by omega) (hG.keep0 hC)) ?_)
  rintro ed w4 ⟨hc_w4, hres⟩
  rw [hdecE] at hres
  obtain ⟨vD, rfl, vaD, vbD, rfl, hvaD, hvbD, hoaD, hobD⟩ := hres
  obtain ⟨AaD, caD, rfl, _⟩ := hvaD.form
  obtain ⟨AbD, cbD, rfl, _⟩ := hvbD.form
  have hlenD := len_dec hdecE
  refine ⟨_, rfl, ?_⟩
  have hB1 := hc_w4.at hB1 (fun e => e)
  have hC := hC.trans hc_w4
  have hK3 := hK3.trans hc_w4
  have hz_w4 := hc_w4.size
  have hK4 : Chg (fun _ => False) w4 w4 := Chg.refl _ _
  refine WL.op (by decide) (R.move rfl) ?_
  refine WL.op (by decide) (R.extract rfl rfl) ?_
  refine WL.op (by decide) (R.extract rfl rfl) ?_
  refine WL.eff rfl (OP.allocM (by decide) ?_)
  intro w5 hc_w5 hs_w5 hB3
  obtain ⟨b3, he_b3⟩ : ∃ b, b = w4.heap.size := ⟨_, rfl⟩
  rw [← he_b3] at hB3 ⊢
  have hB1 := hc_w5.at hB1 (fun e => e)
  have hC := hC.trans hc_w5
  have hK3 := hK3.trans hc_w5
  have hK4 := hK4.trans hc_w5
  have hz_w5 := hc_w5.size
  refine WL.eff rfl (OP.storeM rfl rfl hB3 ?_)
  intro w6 hc_w6 hs_w6 hB3
  have hB1 := hc_w6.at hB1 (fun e => by omega)
  have hC := hC.thenB hc_w6 (by omega)
  have hK3 := hK3.thenB hc_w6 (by omega)
  have hK4 := hK4.thenB hc_w6 (by omega)
  refine WL.op (by decide) (R.assign rfl) ?_
  refine WL.next ?_
  refine CW.rseq ?_
  refine WL.op (by decide) (R.move rfl) ?_
  refine WL.op (by decide) (R.lenSlice rfl Tryd.underlying36 rfl) ?_
  refine WL.op (by decide) (R.eql rfl rfl (decide_eq_true (by rw [hbe]; rfl))) ?_
  refine WL.op (by decide) (R.move rfl) ?_
  refine WL.gop (by decide) rfl rfl rfl (R.move rfl) ?_
  refine WL.gop (by decide) rfl rfl rfl (R.indexAddr1 (i := 0) Tryd.underlying36 sz5 rfl rfl rfl (by rw [hbe]; decide)) ?_
  refine WL.gop (by decide) rfl rfl rfl (R.load Tryd.underlying5 rfl rfl ((hSrcE.keep0 hK3).cellAt (b := 1) (by rw [hbe]; rfl))) ?_
  refine WL.gop (by decide) rfl rfl rfl (R.eql rfl rfl (decide_eq_true (rfl))) ?_
  refine WL.op (by decide) (R.pickT rfl rfl) ?_
  refine WL.op (by decide) (R.move rfl) ?_
  refine WL.gop (by decide) rfl rfl rfl (R.move rfl) ?_
  refine WL.gop (by decide) rfl rfl rfl (R.indexAddr1 (i := 1) Tryd.underlying36 sz5 rfl rfl rfl (by rw [hbe]; decide)) ?_
  refine WL.gop (by decide) rfl rfl rfl (R.load Tryd.underlying5 rfl rfl ((hSrcE.keep0 hK3).cellAt (b := 2) (by rw [hbe]; rfl))) ?_
  refine WL.gop (by decide) rfl rfl rfl (R.eql rfl rfl (decide_eq_true (rfl))) ?_
  refine WL.op (by decide) (R.pickT rfl rfl) ?_
  refine WL.op (by decide) (R.move rfl) ?_
  refine WL.gop (by decide) rfl rfl rfl (R.move rfl) ?_
  refine WL.gop (by decide) rfl rfl rfl (R.eql rfl rfl (decide_eq_true (rfl))) ?_
  refine WL.op (by decide) (R.pickT rfl rfl) ?_
  refine WL.op (by decide) (R.move rfl) ?_
  refine WL.gop (by decide) rfl rfl rfl (FA33_5 rfl) ?_
  refine WL.gop (by decide) rfl rfl rfl (R.loadQ rfl hB3) ?_
  refine WL.gop (by decide) rfl rfl rfl (FA33_5 rfl) ?_
  refine WL.gop (by decide) rfl rfl rfl (R.loadQ rfl hB1) ?_
  refine WL.gop (by decide) rfl rfl rfl (R.eql25 (c := true) rfl rfl (decide_eq_true ⟨rfl, rfl⟩)) ?_
  refine WL.op (by decide) (R.pickT rfl rfl) ?_
  refine WL.op (by decide) (R.move rfl) ?_
  refine WL.geff rfl rfl rfl (OP.call (by decide) Tryd.func40 (by kernel_rfl) (by kernel_rfl) rfl (right_any _ _ (by decide)) ?_)
  rintro ed _ ⟨rfl, rfl⟩
  refine ⟨_, rfl, ?_⟩
  refine WL.op (by decide) (R.pickT rfl rfl) ?_
  refine WL.op (by decide) (R.move rfl) ?_
  refine WL.geff rfl rfl rfl (OP.call (by decide) Tryd.func49 (by kernel_rfl) (by kernel_rfl) rfl (dots_any _ _) ?_)
  rintro ed _ ⟨rfl, rfl⟩
  refine ⟨_, rfl, ?_⟩
  refine WL.gop (by decide) rfl rfl rfl (R.eql rfl rfl (decide_eq_true (rfl))) ?_
  refine WL.op (by decide) (R.pickT rfl rfl) ?_
  refine WL.op (by decide) (R.assign rfl) ?_
  refine WL.next ?_
  refine CW.ret ?_
  exact EW.ret1 (.inl rfl) rfl rfl ⟨rfl, hC⟩
end Go.Proofs.YthcpjcgjmdfpjaaDoor

namespace Go.Proofs.YthcpjcgjmdfpjaaDoor
open Go Go.ChangeShapes Go.WideShapes Go.ChangeAt Go.RowKit
set_option maxRecDepth 100000

theorem Sl.keep0 {α : Type} {cells : α → List Value} {n : Nat} {w w' : World} {A : Option Addr} {m : Nat} {l : List α} (h : Sl cells n w A m l) (hc : Chg (fun _ => False) w w') : Sl cells n w' A m l := h.kept hc
theorem Sl.cellsAt {α : Type} {cells : α → List Value} {N : Nat} {w : World} {g o m : Nat} {ls : List α} (h : Sl cells N w (some ⟨g, o, none⟩) m ls) {j : Nat} {a : α} (hj : ls[j]? = some a) : ∀ i u, (cells a)[i]? = some u → w.cell? ⟨g, o + j * N + i, none⟩ = some u := by
  obtain ⟨_, g2, o2, hA, hc⟩ := h.at hj
  have hA2 := Option.some.inj hA
  injection hA2 with e1 e2
  subst e1 e2
  exact hc
/-- Where the tail of a slice lies. -/
def tailA (A : Option Addr) (N c : Nat) : Option Addr := A.map fun a => if c = 1 then a else ⟨a.block, a.off + N, none⟩
theorem Sl.tail {α : Type} {cells : α → List Value} {N : Nat} {w : World} {A : Option Addr} {m c : Nat} {ls : List α} (h : Sl cells N w A m ls) (hm : m ≤ c) (h1 : 1 ≤ m) : Sl cells N w (tailA A N c) (m - 1) (ls.drop 1) := by
  refine ⟨by rw [List.length_drop, h.1], fun h0 => ?_⟩
  obtain ⟨g, o, hA, hc⟩ := h.2 (by omega)
  subst hA
  refine ⟨g, o + N, ?_, fun j a i u hj hi => ?_⟩
  · unfold tailA
    rw [Option.map_some, if_neg (by omega)]
  · rw [List.getElem?_drop] at hj
    have := hc (1 + j) a i u hj hi
    rw [show o + N + j * N + i = o + (1 + j) * N + i by rw [Nat.add_mul, Nat.one_mul]; omega]
    exact this
theorem R.sliceTail {l : Env} {w : World} {x y : Operand} {t elem g ofs m cap N : Nat} {k1 : IntKind} {a : Int} (ht : Tryd.prog.underlying t = some (.slice elem)) (hs : (Tryd.prog.info? elem).map (·.size) = some N) (hx : ev l x = some (.slice (some ⟨g, ofs, none⟩) m cap)) (ha : ev l y = some (.int k1 a))
    (hea : a = 1) (h1 : 1 ≤ m) (_h2 : m ≤ cap) :
    Runs Tryd.prog l (.slice t x (some y) none none) w (.slice (tailA (some ⟨g, ofs, none⟩) N cap) (m - 1) (cap - 1)) w := fun r _ _ _ _ _ he => by
  subst hea
  obtain ⟨inf, hi', hz⟩ := inf_of hs
  have hb2 : (Instr.sliceBound (.int k1 1) m .sliceB).run Tryd.prog w = .ok 1 w := by
    have := run_sliceBound (P := Tryd.prog) (w := w) k1 1 m .sliceB (by omega) (by omega)
    simpa using this
  have hbs : (Instr.sliceBounds true m cap (some (.int k1 1)) none none).run Tryd.prog w = .ok (1, m, cap) w := by
    simp [Instr.sliceBounds, hb2]
  have hat : (Instr.sliceAt t (.slice (some ⟨g, ofs, none⟩) m cap) (some (.int k1 1)) none none).run Tryd.prog w = .ok (.slice (tailA (some ⟨g, ofs, none⟩) N cap) (m - 1) (cap - 1)) w := by
    simp only [Instr.sliceAt, Instr.slice, Sem.run_bind, run_underlying ht, Result.andThen_ok, hbs, sizeOf, typeInfo, run_program, hi', hz, Sem.run_pure]
    unfold tailA
    by_cases hq : cap = 1 <;> simp [hq, Addr.add_none]
  simp only [execOp, he x _ hx, Option.map_some, Option.map_none, he y _ ha, Sem.run_bind, hat, Result.andThen_ok]
  rfl
theorem tail_ok {l : List SeedV} (h : ∀ s ∈ l, s.Ok) : ∀ s ∈ l.drop 1, s.Ok := fun s hs => h s (List.mem_of_mem_drop hs)
theorem tail_16 {l : List SeedV} (h : ∀ s ∈ l, s.Ok) : ∀ s ∈ l.drop 1, s.addr.length = 16 := fun s hs => (h s (List.mem_of_mem_drop hs)).a
/-- What is appended to bytes that are owned. -/
theorem appended {w w' : World} {base g c : Nat} {bs news : List UInt8} {v' : Value} (h0 : bs ≠ []) (hB : Buf w' base v' (bs ++ news)) (hM : Moved w w' (.slice (some ⟨g, 0, none⟩) bs.length c) v') (_hg : g < w.heap.size) :
    ∃ g' c', v' = .slice (some ⟨g', 0, none⟩) (bs ++ news).length c' ∧ Src w' (some ⟨g', 0, none⟩) (bs ++ news).length c' (bs ++ news) ∧ Chg (fun k => k = g) w w' ∧ g' < w'.heap.size := by
  have hc := (Chg.moved hM).mono (S' := fun k => k = g) (fun k _ e => Option.some.inj e)
  obtain ⟨g', c', rfl, hge, hgl, hle, hcell⟩ := hB.open (by simp [h0])
  exact ⟨g', c', rfl, Buf.src2 hle hcell, hc, hgl⟩
theorem open_bytesN {H : Type} {enc : TypeId × Value → H} {W : World} {base : Nat} {v : Value} {d : DataW H} {p : List MemPlace} (hval : Value.okWide Tryd.prog W .any base 36 v) (hd : DataW.Trod enc Tryd.prog W 0 (fun _ => true) true 36 v d p) :
    ∃ A m c bs, v = .slice A m c ∧ Src W A m c bs ∧ (∀ g o, A = some ⟨g, o, none⟩ → g < W.heap.size) ∧ (A = none → c = 0) := by
  obtain ⟨A, m, c, bs, rfl, hS, hg⟩ := open_bytes hval hd
  refine ⟨A, m, c, bs, rfl, hS, hg, fun hA => ?_⟩
  subst hA
  obtain ⟨fuel, hf⟩ := hd
  have h3 : (Value.slice none m c).cells.toList = [.slice none m c] := rfl
  rcases DataW.trod_slice Tryd.underlying36 hf with ⟨h1, _⟩ | ⟨a, len, cap, _, _, _, _, h1, _⟩
  · rw [h3] at h1; injection h1 with h1 _; injection h1
  · rw [h3] at h1; injection h1 with h1 _; injection h1 with e _ _; cases e
theorem ne_of_dec {bs : List UInt8} {m : Msg} (h : decode bs = some m) : bs ≠ [] := by
  intro e; subst e; have := decode_ge h; simp at this
end Go.Proofs.YthcpjcgjmdfpjaaDoor
