/- MsgMore: the statement MsgMore is proved (its card): no conditions. Here: Message, MsgMore, MsgMoreCard. -/
import Derived.Test.YthcpjcgjmdfpjaaDoorMsgMoreD
namespace Go.Proofs.YthcpjcgjmdfpjaaDoor
open Go Go.RowKit
set_option maxRecDepth 100000
set_option maxHeartbeats 4000000

theorem R.field1 {l : Env} {w : World} {x : Operand} {t i : Nat} {fs : Array Field} {fd : Field} {d : TypeDesc} {cs : Array Value} {v : Value} (ht : Tryd.prog.underlying t = some (.struct fs)) (hf : fs[i]? = some fd) (hu : Tryd.prog.underlying fd.type = some d) (hd : isAggD d = false) (hx : ev l x = some (.agg cs)) (hv : cs[fd.offset]? = some v) : Runs Tryd.prog l (.field t x i) w v w := fun r _ _ _ _ _ he => by
  have hp := run_part1 (P := Tryd.prog) hu hd (cs := cs) (i := fd.offset) hv w
  simp only [execOp, he x _ hx, Instr.field, Sem.run_bind, run_underlying ht, Result.andThen_ok, hf, asAgg, Sem.run_pure, hp]
theorem slice_codes (w : World) : (Instr.buildSlice 65 4 #[(0, .int .i64 0), (1, .int .i64 0), (2, .int .i64 3), (3, .int .i64 2)]).run Tryd.prog w = .ok (.slice (some ⟨w.heap.size, 0, none⟩) 4 4) (w.alloc (.cells (codesA.map (Value.int .i64)).toArray 3)) := by kernel_rfl
theorem build33_6 (id : Int) (a b c : Bool) (code : Int) (s : List UInt8) (ty : Int) (w : World) : (Instr.build 33 #[(0, .int .i64 id), (1, .bool a), (2, .bool b), (3, .bool c), (4, .int .i64 code), (5, .agg #[sv s, .int .i64 ty])]).run Tryd.prog w = .ok (.agg (Msg.cells ⟨id, a, b, c, code, s, ty, [], []⟩ (.slice none 0 0) (.slice none 0 0)).toArray) w := by unfold sv; kernel_rfl
def msgH (id f : Int) (q : SeedV) : Msg := ⟨id % 65536, decide (f % 2 > 0), decide (bitI 1 f > 0), decide (bitI 2 f > 0), codeN f, nameN q.name, (recS q).type, [], []⟩
def withR (m : Msg) (a b : List Rec) : Msg := ⟨m.id, m.reply, m.trunc, m.recur, m.code, m.qname, m.qtype, a, b⟩
/-- Two slices that share no block. -/
def Dis (a b : Value) : Prop := ∀ k, a.ownBlock = some k → b.ownBlock = some k → False
theorem append_two {w w' : World} {base : Nat} {va va' vb : Value} {rs qs : List Rec} {r : Rec} (hA : RBuf w base va rs) (hB : RBuf w base vb qs) (hD : Dis va vb) (hN : RBuf w' base va' (rs ++ [r])) (hM : Moved w w' va va') : RBuf w' base vb qs ∧ Dis va' vb ∧ Chg (fun k => base ≤ k) w w' := by
  have hc := Chg.moved hM
  refine ⟨hB.kept hc (fun k e1 e2 => hD k e2.symm e1), fun k e1 e2 => ?_, hc.mono (fun k _ e => (hA.lt k e.symm).1)⟩
  rcases hM.at_ with h | ⟨j, h, hj⟩
  · exact hD k (h ▸ e1) e2
  · rw [h] at e1
    have := (hB.lt k e2).2
    have := Option.some.inj e1
    omega
theorem take_snoc {l : List SeedV} {j : Nat} {s : SeedV} (hs : l[j]? = some s) : l.take (j + 1) = l.take j ++ [s] := by rw [List.take_add_one, hs]; rfl
theorem ans_snoc {l : List SeedV} {j : Nat} {s : SeedV} (hs : l[j]? = some s) (h : isSoa (recS s) = false) : ansS (l.take (j + 1)) = ansS (l.take j) ++ [recS s] := by
  rw [take_snoc hs]; simp [ansS, h]
theorem ans_same {l : List SeedV} {j : Nat} {s : SeedV} (hs : l[j]? = some s) (h : isSoa (recS s) = true) : ansS (l.take (j + 1)) = ansS (l.take j) := by
  rw [take_snoc hs]; simp [ansS, h]
theorem auth_snoc {l : List SeedV} {j : Nat} {s : SeedV} (hs : l[j]? = some s) (h : isSoa (recS s) = true) : authS (l.take (j + 1)) = authS (l.take j) ++ [recS s] := by
  rw [take_snoc hs]; simp [authS, h]
theorem auth_same {l : List SeedV} {j : Nat} {s : SeedV} (hs : l[j]? = some s) (h : isSoa (recS s) = false) : authS (l.take (j + 1)) = authS (l.take j) := by
  rw [take_snoc hs]; simp [authS, h]
theorem ans_len (l : List SeedV) (j : Nat) : (ansS (l.take j)).length ≤ j := by
  have := filter_two isSoa ((l.take j).map recS)
  have e : ansS (l.take j) = ((l.take j).map recS).filter (fun x => !isSoa x) := rfl
  rw [← e, List.length_map, List.length_take] at this
  omega
theorem auth_len (l : List SeedV) (j : Nat) : (authS (l.take j)).length ≤ j := by
  have := filter_two isSoa ((l.take j).map recS)
  have e : authS (l.take j) = ((l.take j).map recS).filter isSoa := rfl
  rw [← e, List.length_map, List.length_take] at this
  omega
theorem take_end {l : List SeedV} {j : Nat} (h : j = 32 ∨ (j ≤ 32 ∧ l.length ≤ j)) : l.take j = l.take 32 := by
  rcases h with rfl | ⟨h1, h2⟩
  · rfl
  · rw [List.take_of_length_le h2, List.take_of_length_le (by omega)]
theorem message_any (id f : Int) (q : SeedV) (A : Option Addr) (m c : Nat) (l : List SeedV) (w0 : World) (hq : q.Ok) (hL : Sl SeedV.cells 20 w0 A m l) (hO : ∀ s ∈ l, s.Ok) (hm : m ≤ maxLen) :
    Calls Tryd.prog 28 #[.int .i64 id, .int .i64 f, .agg q.cells.toArray, .slice A m c] w0 fun e w' => Chg (fun _ => False) w0 w' ∧ ∃ v, e = .returned v ∧ MVF w0.heap.size w' v (msgS id f q l) := by
  have hlm := hL.1
  have hq16 := hq.a
  have hC := Chg.refl (fun _ => False) w0
  have hmx : maxLen = 9223372036854775807 := rfl
  refine calls_cw (args := [.int .i64 id, .int .i64 f, .agg q.cells.toArray, .slice A m c]) Tryd.func28 rfl rfl ?_
  show CW _ _ _ 66 [(0, .int .i64 id), (1, .int .i64 f), (2, .agg q.cells.toArray), (3, .slice A m c)] w0
  refine CW.rseq ?_
  refine WL.eff rfl (OP.box (by decide) rfl ?_)
  intro w1 hc_w1 hs_w1 hB6
  obtain ⟨b6, he_b6⟩ : ∃ b, b = w0.heap.size := ⟨_, rfl⟩
  rw [← he_b6] at hB6 ⊢
  have hB6 : BSd w1 b6 _ := hB6
  have hC := hC.trans hc_w1
  have hz_w1 := hc_w1.size
  refine WL.eff rfl (OP.allocM (by decide) ?_)
  intro w2 hc_w2 hs_w2 hB8
  obtain ⟨b8, he_b8⟩ : ∃ b, b = w1.heap.size := ⟨_, rfl⟩
  rw [← he_b8] at hB8 ⊢
  have hB6 := hc_w2.at hB6 (fun e => e)
  have hC := hC.trans hc_w2
  have hz_w2 := hc_w2.size
  refine WL.next ?_
  refine CW.cut (fun le wr => ∃ b9 base, Chg (fun _ => False) w0 wr ∧ base = wr.heap.size ∧ w0.heap.size ≤ b8 ∧ w0.heap.size ≤ b9 ∧ b8 < base ∧ b9 < base ∧ b8 ≠ b9 ∧ le = [(3, .slice A m c), (8, .pointer (some ⟨b8, 0, none⟩)), (9, .pointer (some ⟨b9, 0, none⟩))] ∧ BM wr b8 msg0 (.slice none 0 0) (.slice none 0 0) ∧ BM wr b9 (msgH id f q) (.slice none 0 0) (.slice none 0 0)) ?_ ?_
  ·
    have hB6_d := hB6
    have hB8_d := hB8
    refine CW.draw (fun w => w.heap[b6]? = w2.heap[b6]? ∧ w.heap[b8]? = w2.heap[b8]?) (by kernel_rfl) ?_
    have hc_w3 : Chg (fun _ => False) w2 w2.drew := Chg.drew _ _
    obtain ⟨w3, he_w3⟩ : ∃ w, w = w2.drew := ⟨_, rfl⟩
    rw [← he_w3] at hc_w3 ⊢
    have hB6 := hc_w3.at hB6 (fun e => e)
    have hB8 := hc_w3.at hB8 (fun e => e)
    have hC := hC.trans hc_w3
    have hz_w3 := hc_w3.size
    refine AH.take 0 rfl (by kernel_rfl) (by kernel_rfl) (by kernel_rfl) (fun _ _ _ _ h => h) (⟨hB6.trans hB6_d.symm, hB8.trans hB8_d.symm⟩) (by decide) (fun w hS => R.move rfl) ?_
    refine AH.take 1 rfl (by kernel_rfl) (by kernel_rfl) (by kernel_rfl) (fun _ _ _ _ h => h) (⟨hB6.trans hB6_d.symm, hB8.trans hB8_d.symm⟩) (by decide) (fun w hS => R.mask 16 rfl rfl (by decide) rfl rfl) ?_
    refine AH.take 2 rfl (by kernel_rfl) (by kernel_rfl) (by kernel_rfl) (fun _ _ _ _ h => h) (⟨hB6.trans hB6_d.symm, hB8.trans hB8_d.symm⟩) (by decide) (fun w hS => R.move rfl) ?_
    refine AH.take 3 rfl (by kernel_rfl) (by kernel_rfl) (by kernel_rfl) (fun _ _ _ _ h => h) (⟨hB6.trans hB6_d.symm, hB8.trans hB8_d.symm⟩) (by decide) (fun w hS => R.mask 1 rfl rfl (by decide) rfl rfl) ?_
    refine AH.take 4 rfl (by kernel_rfl) (by kernel_rfl) (by kernel_rfl) (fun _ _ _ _ h => h) (⟨hB6.trans hB6_d.symm, hB8.trans hB8_d.symm⟩) (by decide) (fun w hS => R.gtrD rfl rfl) ?_
    refine AH.take 5 rfl (by kernel_rfl) (by kernel_rfl) (by kernel_rfl) (fun _ _ _ _ h => h) (⟨hB6.trans hB6_d.symm, hB8.trans hB8_d.symm⟩) (by decide) (fun w hS => R.move rfl) ?_
    refine AH.take 6 rfl (by kernel_rfl) (by kernel_rfl) (by kernel_rfl) (fun _ _ _ _ h => h) (⟨hB6.trans hB6_d.symm, hB8.trans hB8_d.symm⟩) (by decide) (fun w hS => R.bit 1 rfl rfl (by decide) rfl) ?_
    refine AH.take 7 rfl (by kernel_rfl) (by kernel_rfl) (by kernel_rfl) (fun _ _ _ _ h => h) (⟨hB6.trans hB6_d.symm, hB8.trans hB8_d.symm⟩) (by decide) (fun w hS => R.gtrD rfl rfl) ?_
    refine AH.take 8 rfl (by kernel_rfl) (by kernel_rfl) (by kernel_rfl) (fun _ _ _ _ h => h) (⟨hB6.trans hB6_d.symm, hB8.trans hB8_d.symm⟩) (by decide) (fun w hS => R.move rfl) ?_
    refine AH.take 9 rfl (by kernel_rfl) (by kernel_rfl) (by kernel_rfl) (fun _ _ _ _ h => h) (⟨hB6.trans hB6_d.symm, hB8.trans hB8_d.symm⟩) (by decide) (fun w hS => R.bit 2 rfl rfl (by decide) rfl) ?_
    refine AH.take 10 rfl (by kernel_rfl) (by kernel_rfl) (by kernel_rfl) (fun _ _ _ _ h => h) (⟨hB6.trans hB6_d.symm, hB8.trans hB8_d.symm⟩) (by decide) (fun w hS => R.gtrD rfl rfl) ?_
    refine AH.take 12 rfl (by kernel_rfl) (by kernel_rfl) (by kernel_rfl) (fun _ _ _ _ h => h) (⟨hB6.trans hB6_d.symm, hB8.trans hB8_d.symm⟩) (by decide) (fun w hS => R.move rfl) ?_
    refine AH.take 13 rfl (by kernel_rfl) (by kernel_rfl) (by kernel_rfl) (fun _ _ _ _ h => h) (⟨hB6.trans hB6_d.symm, hB8.trans hB8_d.symm⟩) (by decide) (fun w hS => R.shr rfl rfl (by omega)) ?_
    refine AH.take 14 rfl (by kernel_rfl) (by kernel_rfl) (by kernel_rfl) (fun _ _ _ _ h => h) (⟨hB6.trans hB6_d.symm, hB8.trans hB8_d.symm⟩) (by decide) (fun w hS => R.mask 2 rfl rfl (by decide) rfl rfl) ?_
    refine AH.take 17 rfl (by kernel_rfl) (by kernel_rfl) (by kernel_rfl) (fun _ _ _ _ h => h) (⟨hB6.trans hB6_d.symm, hB8.trans hB8_d.symm⟩) (by decide) (fun w hS => FA50_0 rfl) ?_
    refine AH.take 18 rfl (by kernel_rfl) (by kernel_rfl) (by kernel_rfl) (fun _ _ _ _ h => h) (⟨hB6.trans hB6_d.symm, hB8.trans hB8_d.symm⟩) (by decide) (fun w hS => R.load Tryd.underlying3 rfl rfl (cell_at (hS.1.trans hB6_d) rfl)) ?_
    refine AH.take 20 rfl (by kernel_rfl) (by kernel_rfl) (by kernel_rfl) (fun _ _ _ _ h => h) (⟨hB6.trans hB6_d.symm, hB8.trans hB8_d.symm⟩) (by decide) (fun w hS => R.loadSd (by assumption) rfl (hS.1.trans hB6_d)) ?_
    refine AH.three 11 19 25 (by kernel_rfl) rfl rfl rfl rfl rfl rfl ?_ ?_ ?_
    · skip
      refine (OP.buildSlice (parts := [(0, _), (1, _), (2, _), (3, _)]) (vals := [(0, _), (1, _), (2, _), (3, _)]) (cells := (codesA.map (Value.int .i64)).toArray) (ty := 3) (by decide) rfl slice_codes ?_)
      intro w4 hc_w4 hs_w4 hN
      obtain ⟨bN, he_bN⟩ : ∃ b, b = w3.heap.size := ⟨_, rfl⟩
      rw [← he_bN] at hN ⊢
      have hB6 := hc_w4.at hB6 (fun e => e)
      have hB8 := hc_w4.at hB8 (fun e => e)
      have hC := hC.trans hc_w4
      have hz_w4 := hc_w4.size
      refine ⟨⟨hB6.trans hB6_d.symm, hB8.trans hB8_d.symm⟩, ?_⟩
      refine AH.take 15 rfl (by kernel_rfl) (by kernel_rfl) (by kernel_rfl) (fun _ _ _ _ h => h) (⟨hB6.trans hB6_d.symm, hB8.trans hB8_d.symm⟩) (by decide) (fun w hS => R.indexAddr1 (i := (f / 2 ^ (3 : Int).toNat % 4).toNat) Tryd.underlying65 sz3 rfl rfl (by omega) (by omega)) ?_
      refine AH.three 16 19 25 (by kernel_rfl) rfl rfl rfl rfl rfl rfl ?_ ?_ ?_
      · skip
        refine (OP.val (by decide) (R.load Tryd.underlying3 rfl rfl (by rw [Nat.zero_add, Nat.mul_one]; exact cell_at hN (by rw [List.getElem?_toArray, List.getElem?_map, codeN_at f]; rfl))) ?_)
        refine ⟨⟨hB6.trans hB6_d.symm, hB8.trans hB8_d.symm⟩, ?_⟩
        refine AH.either 19 25 (by kernel_rfl) rfl rfl rfl rfl ?_ ?_
        · skip
          refine (OP.call (by decide) Tryd.func33 (by kernel_rfl) (by kernel_rfl) rfl (name_any _ _) ?_)
          rintro ed w5 ⟨rfl, hc_w5⟩
          refine ⟨_, rfl, ?_⟩
          have hB6 := hc_w5.at hB6 (fun e => e)
          have hB8 := hc_w5.at hB8 (fun e => e)
          have hN := hc_w5.at hN (fun e => e)
          have hC := hC.trans hc_w5
          have hz_w5 := hc_w5.size
          refine ⟨⟨hB6.trans hB6_d.symm, hB8.trans hB8_d.symm⟩, ?_⟩
          refine AH.either 21 25 (by kernel_rfl) rfl rfl rfl rfl ?_ ?_
          · skip
            refine (OP.call (by decide) Tryd.func48 (by kernel_rfl) (by kernel_rfl) rfl (record_any _ _ hq) ?_)
            rintro ed w6 ⟨rfl, hc_w6⟩
            refine ⟨_, rfl, ?_⟩
            have hB6 := hc_w6.at hB6 (fun e => e)
            have hB8 := hc_w6.at hB8 (fun e => e)
            have hN := hc_w6.at hN (fun e => e)
            have hC := hC.trans hc_w6
            have hz_w6 := hc_w6.size
            refine ⟨⟨hB6.trans hB6_d.symm, hB8.trans hB8_d.symm⟩, ?_⟩
            refine AH.take 22 rfl (by kernel_rfl) (by kernel_rfl) (by kernel_rfl) (fun _ _ _ _ h => h) (⟨hB6.trans hB6_d.symm, hB8.trans hB8_d.symm⟩) (by decide) (fun w hS => R.field1 Tryd.underlying57 rfl Tryd.underlying3 rfl rfl (recS q).at1) ?_
            refine AH.take 23 rfl (by kernel_rfl) (by kernel_rfl) (by kernel_rfl) (fun _ _ _ _ h => h) (⟨hB6.trans hB6_d.symm, hB8.trans hB8_d.symm⟩) (by decide) (fun w hS => R.build (parts := [(0, _), (1, _)]) (vals := [(0, _), (1, _)]) rfl (fun w => build25_2 _ _ w)) ?_
            refine AH.take 24 rfl (by kernel_rfl) (by kernel_rfl) (by kernel_rfl) (fun _ _ _ _ h => h) (⟨hB6.trans hB6_d.symm, hB8.trans hB8_d.symm⟩) (by decide) (fun w hS => R.build (parts := [(0, _), (1, _), (2, _), (3, _), (4, _), (5, _)]) (vals := [(0, _), (1, _), (2, _), (3, _), (4, _), (5, _)]) rfl (fun w => build33_6 _ _ _ _ _ _ _ w)) ?_
            refine AH.eff 25 (by kernel_rfl) rfl rfl (OP.allocM (by decide) ?_)
            intro w7 hc_w7 hs_w7 hB9
            obtain ⟨b9, he_b9⟩ : ∃ b, b = w6.heap.size := ⟨_, rfl⟩
            rw [← he_b9] at hB9 ⊢
            have hB6 := hc_w7.at hB6 (fun e => e)
            have hB8 := hc_w7.at hB8 (fun e => e)
            have hN := hc_w7.at hN (fun e => e)
            have hC := hC.trans hc_w7
            have hz_w7 := hc_w7.size
            refine ⟨⟨hB6.trans hB6_d.symm, hB8.trans hB8_d.symm⟩, ?_⟩
            refine AH.eff 26 (by kernel_rfl) rfl rfl (OP.storeM rfl rfl hB9 ?_)
            intro w8 hc_w8 hs_w8 hB9
            have hB6 := hc_w8.at hB6 (fun e => by omega)
            have hB8 := hc_w8.at hB8 (fun e => by omega)
            have hN := hc_w8.at hN (fun e => by omega)
            have hC := hC.thenB hc_w8 (by omega)
            refine ⟨⟨hB6.trans hB6_d.symm, hB8.trans hB8_d.symm⟩, ?_⟩
            refine AH.done (by kernel_rfl) ?_
            exact EW.cutK [3, 8, 9] ⟨b9, _, hC, rfl, by omega, by omega, by omega, by omega, by omega, rfl, hB8, hB9⟩
          · skip
            refine (OP.allocM (by decide) ?_)
            intro w9 hc_w9 hs_w9 hB9
            obtain ⟨b9, he_b9⟩ : ∃ b, b = w5.heap.size := ⟨_, rfl⟩
            rw [← he_b9] at hB9 ⊢
            have hB6 := hc_w9.at hB6 (fun e => e)
            have hB8 := hc_w9.at hB8 (fun e => e)
            have hN := hc_w9.at hN (fun e => e)
            have hC := hC.trans hc_w9
            have hz_w9 := hc_w9.size
            refine ⟨⟨hB6.trans hB6_d.symm, hB8.trans hB8_d.symm⟩, ?_⟩
            refine AH.eff 21 (by kernel_rfl) rfl rfl (OP.call (by decide) Tryd.func48 (by kernel_rfl) (by kernel_rfl) rfl (record_any _ _ hq) ?_)
            rintro ed w10 ⟨rfl, hc_w10⟩
            refine ⟨_, rfl, ?_⟩
            have hB6 := hc_w10.at hB6 (fun e => e)
            have hB8 := hc_w10.at hB8 (fun e => e)
            have hN := hc_w10.at hN (fun e => e)
            have hB9 := hc_w10.at hB9 (fun e => e)
            have hC := hC.trans hc_w10
            have hz_w10 := hc_w10.size
            refine ⟨⟨hB6.trans hB6_d.symm, hB8.trans hB8_d.symm⟩, ?_⟩
            refine AH.take 22 rfl (by kernel_rfl) (by kernel_rfl) (by kernel_rfl) (fun _ _ _ _ h => h) (⟨hB6.trans hB6_d.symm, hB8.trans hB8_d.symm⟩) (by decide) (fun w hS => R.field1 Tryd.underlying57 rfl Tryd.underlying3 rfl rfl (recS q).at1) ?_
            refine AH.take 23 rfl (by kernel_rfl) (by kernel_rfl) (by kernel_rfl) (fun _ _ _ _ h => h) (⟨hB6.trans hB6_d.symm, hB8.trans hB8_d.symm⟩) (by decide) (fun w hS => R.build (parts := [(0, _), (1, _)]) (vals := [(0, _), (1, _)]) rfl (fun w => build25_2 _ _ w)) ?_
            refine AH.take 24 rfl (by kernel_rfl) (by kernel_rfl) (by kernel_rfl) (fun _ _ _ _ h => h) (⟨hB6.trans hB6_d.symm, hB8.trans hB8_d.symm⟩) (by decide) (fun w hS => R.build (parts := [(0, _), (1, _), (2, _), (3, _), (4, _), (5, _)]) (vals := [(0, _), (1, _), (2, _), (3, _), (4, _), (5, _)]) rfl (fun w => build33_6 _ _ _ _ _ _ _ w)) ?_
            refine AH.eff 26 (by kernel_rfl) rfl rfl (OP.storeM rfl rfl hB9 ?_)
            intro w11 hc_w11 hs_w11 hB9
            have hB6 := hc_w11.at hB6 (fun e => by omega)
            have hB8 := hc_w11.at hB8 (fun e => by omega)
            have hN := hc_w11.at hN (fun e => by omega)
            have hC := hC.thenB hc_w11 (by omega)
            refine ⟨⟨hB6.trans hB6_d.symm, hB8.trans hB8_d.symm⟩, ?_⟩
            refine AH.done (by kernel_rfl) ?_
            exact EW.cutK [3, 8, 9] ⟨b9, _, hC, rfl, by omega, by omega, by omega, by omega, by omega, rfl, hB8, hB9⟩
        · skip
          refine (OP.allocM (by decide) ?_)
          intro w12 hc_w12 hs_w12 hB9
          obtain ⟨b9, he_b9⟩ : ∃ b, b = w4.heap.size := ⟨_, rfl⟩
          rw [← he_b9] at hB9 ⊢
          have hB6 := hc_w12.at hB6 (fun e => e)
          have hB8 := hc_w12.at hB8 (fun e => e)
          have hN := hc_w12.at hN (fun e => e)
          have hC := hC.trans hc_w12
          have hz_w12 := hc_w12.size
          refine ⟨⟨hB6.trans hB6_d.symm, hB8.trans hB8_d.symm⟩, ?_⟩
          refine AH.eff 19 (by kernel_rfl) rfl rfl (OP.call (by decide) Tryd.func33 (by kernel_rfl) (by kernel_rfl) rfl (name_any _ _) ?_)
          rintro ed w13 ⟨rfl, hc_w13⟩
          refine ⟨_, rfl, ?_⟩
          have hB6 := hc_w13.at hB6 (fun e => e)
          have hB8 := hc_w13.at hB8 (fun e => e)
          have hN := hc_w13.at hN (fun e => e)
          have hB9 := hc_w13.at hB9 (fun e => e)
          have hC := hC.trans hc_w13
          have hz_w13 := hc_w13.size
          refine ⟨⟨hB6.trans hB6_d.symm, hB8.trans hB8_d.symm⟩, ?_⟩
          refine AH.eff 21 (by kernel_rfl) rfl rfl (OP.call (by decide) Tryd.func48 (by kernel_rfl) (by kernel_rfl) rfl (record_any _ _ hq) ?_)
          rintro ed w14 ⟨rfl, hc_w14⟩
          refine ⟨_, rfl, ?_⟩
          have hB6 := hc_w14.at hB6 (fun e => e)
          have hB8 := hc_w14.at hB8 (fun e => e)
          have hN := hc_w14.at hN (fun e => e)
          have hB9 := hc_w14.at hB9 (fun e => e)
          have hC := hC.trans hc_w14
          have hz_w14 := hc_w14.size
          refine ⟨⟨hB6.trans hB6_d.symm, hB8.trans hB8_d.symm⟩, ?_⟩
          refine AH.take 22 rfl (by kernel_rfl) (by kernel_rfl) (by kernel_rfl) (fun _ _ _ _ h => h) (⟨hB6.trans hB6_d.symm, hB8.trans hB8_d.symm⟩) (by decide) (fun w hS => R.field1 Tryd.underlying57 rfl Tryd.underlying3 rfl rfl (recS q).at1) ?_
          refine AH.take 23 rfl (by kernel_rfl) (by kernel_rfl) (by kernel_rfl) (fun _ _ _ _ h => h) (⟨hB6.trans hB6_d.symm, hB8.trans hB8_d.symm⟩) (by decide) (fun w hS => R.build (parts := [(0, _), (1, _)]) (vals := [(0, _), (1, _)]) rfl (fun w => build25_2 _ _ w)) ?_
          refine AH.take 24 rfl (by kernel_rfl) (by kernel_rfl) (by kernel_rfl) (fun _ _ _ _ h => h) (⟨hB6.trans hB6_d.symm, hB8.trans hB8_d.symm⟩) (by decide) (fun w hS => R.build (parts := [(0, _), (1, _), (2, _), (3, _), (4, _), (5, _)]) (vals := [(0, _), (1, _), (2, _), (3, _), (4, _), (5, _)]) rfl (fun w => build33_6 _ _ _ _ _ _ _ w)) ?_
          refine AH.eff 26 (by kernel_rfl) rfl rfl (OP.storeM rfl rfl hB9 ?_)
          intro w15 hc_w15 hs_w15 hB9
          have hB6 := hc_w15.at hB6 (fun e => by omega)
          have hB8 := hc_w15.at hB8 (fun e => by omega)
          have hN := hc_w15.at hN (fun e => by omega)
          have hC := hC.thenB hc_w15 (by omega)
          refine ⟨⟨hB6.trans hB6_d.symm, hB8.trans hB8_d.symm⟩, ?_⟩
          refine AH.done (by kernel_rfl) ?_
          exact EW.cutK [3, 8, 9] ⟨b9, _, hC, rfl, by omega, by omega, by omega, by omega, by omega, rfl, hB8, hB9⟩
      · skip
        refine (OP.call (by decide) Tryd.func33 (by kernel_rfl) (by kernel_rfl) rfl (name_any _ _) ?_)
        rintro ed w16 ⟨rfl, hc_w16⟩
        refine ⟨_, rfl, ?_⟩
        have hB6 := hc_w16.at hB6 (fun e => e)
        have hB8 := hc_w16.at hB8 (fun e => e)
        have hN := hc_w16.at hN (fun e => e)
        have hC := hC.trans hc_w16
        have hz_w16 := hc_w16.size
        refine ⟨⟨hB6.trans hB6_d.symm, hB8.trans hB8_d.symm⟩, ?_⟩
        refine AH.three 16 21 25 (by kernel_rfl) rfl rfl rfl rfl rfl rfl ?_ ?_ ?_
        · skip
          refine (OP.val (by decide) (R.load Tryd.underlying3 rfl rfl (by rw [Nat.zero_add, Nat.mul_one]; exact cell_at hN (by rw [List.getElem?_toArray, List.getElem?_map, codeN_at f]; rfl))) ?_)
          refine ⟨⟨hB6.trans hB6_d.symm, hB8.trans hB8_d.symm⟩, ?_⟩
          refine AH.either 21 25 (by kernel_rfl) rfl rfl rfl rfl ?_ ?_
          · skip
            refine (OP.call (by decide) Tryd.func48 (by kernel_rfl) (by kernel_rfl) rfl (record_any _ _ hq) ?_)
            rintro ed w17 ⟨rfl, hc_w17⟩
            refine ⟨_, rfl, ?_⟩
            have hB6 := hc_w17.at hB6 (fun e => e)
            have hB8 := hc_w17.at hB8 (fun e => e)
            have hN := hc_w17.at hN (fun e => e)
            have hC := hC.trans hc_w17
            have hz_w17 := hc_w17.size
            refine ⟨⟨hB6.trans hB6_d.symm, hB8.trans hB8_d.symm⟩, ?_⟩
            refine AH.take 22 rfl (by kernel_rfl) (by kernel_rfl) (by kernel_rfl) (fun _ _ _ _ h => h) (⟨hB6.trans hB6_d.symm, hB8.trans hB8_d.symm⟩) (by decide) (fun w hS => R.field1 Tryd.underlying57 rfl Tryd.underlying3 rfl rfl (recS q).at1) ?_
            refine AH.take 23 rfl (by kernel_rfl) (by kernel_rfl) (by kernel_rfl) (fun _ _ _ _ h => h) (⟨hB6.trans hB6_d.symm, hB8.trans hB8_d.symm⟩) (by decide) (fun w hS => R.build (parts := [(0, _), (1, _)]) (vals := [(0, _), (1, _)]) rfl (fun w => build25_2 _ _ w)) ?_
            refine AH.take 24 rfl (by kernel_rfl) (by kernel_rfl) (by kernel_rfl) (fun _ _ _ _ h => h) (⟨hB6.trans hB6_d.symm, hB8.trans hB8_d.symm⟩) (by decide) (fun w hS => R.build (parts := [(0, _), (1, _), (2, _), (3, _), (4, _), (5, _)]) (vals := [(0, _), (1, _), (2, _), (3, _), (4, _), (5, _)]) rfl (fun w => build33_6 _ _ _ _ _ _ _ w)) ?_
            refine AH.eff 25 (by kernel_rfl) rfl rfl (OP.allocM (by decide) ?_)
            intro w18 hc_w18 hs_w18 hB9
            obtain ⟨b9, he_b9⟩ : ∃ b, b = w17.heap.size := ⟨_, rfl⟩
            rw [← he_b9] at hB9 ⊢
            have hB6 := hc_w18.at hB6 (fun e => e)
            have hB8 := hc_w18.at hB8 (fun e => e)
            have hN := hc_w18.at hN (fun e => e)
            have hC := hC.trans hc_w18
            have hz_w18 := hc_w18.size
            refine ⟨⟨hB6.trans hB6_d.symm, hB8.trans hB8_d.symm⟩, ?_⟩
            refine AH.eff 26 (by kernel_rfl) rfl rfl (OP.storeM rfl rfl hB9 ?_)
            intro w19 hc_w19 hs_w19 hB9
            have hB6 := hc_w19.at hB6 (fun e => by omega)
            have hB8 := hc_w19.at hB8 (fun e => by omega)
            have hN := hc_w19.at hN (fun e => by omega)
            have hC := hC.thenB hc_w19 (by omega)
            refine ⟨⟨hB6.trans hB6_d.symm, hB8.trans hB8_d.symm⟩, ?_⟩
            refine AH.done (by kernel_rfl) ?_
            exact EW.cutK [3, 8, 9] ⟨b9, _, hC, rfl, by omega, by omega, by omega, by omega, by omega, rfl, hB8, hB9⟩
          · skip
            refine (OP.allocM (by decide) ?_)
            intro w20 hc_w20 hs_w20 hB9
            obtain ⟨b9, he_b9⟩ : ∃ b, b = w16.heap.size := ⟨_, rfl⟩
            rw [← he_b9] at hB9 ⊢
            have hB6 := hc_w20.at hB6 (fun e => e)
            have hB8 := hc_w20.at hB8 (fun e => e)
            have hN := hc_w20.at hN (fun e => e)
            have hC := hC.trans hc_w20
            have hz_w20 := hc_w20.size
            refine ⟨⟨hB6.trans hB6_d.symm, hB8.trans hB8_d.symm⟩, ?_⟩
            refine AH.eff 21 (by kernel_rfl) rfl rfl (OP.call (by decide) Tryd.func48 (by kernel_rfl) (by kernel_rfl) rfl (record_any _ _ hq) ?_)
            rintro ed w21 ⟨rfl, hc_w21⟩
            refine ⟨_, rfl, ?_⟩
            have hB6 := hc_w21.at hB6 (fun e => e)
            have hB8 := hc_w21.at hB8 (fun e => e)
            have hN := hc_w21.at hN (fun e => e)
            have hB9 := hc_w21.at hB9 (fun e => e)
            have hC := hC.trans hc_w21
            have hz_w21 := hc_w21.size
            refine ⟨⟨hB6.trans hB6_d.symm, hB8.trans hB8_d.symm⟩, ?_⟩
            refine AH.take 22 rfl (by kernel_rfl) (by kernel_rfl) (by kernel_rfl) (fun _ _ _ _ h => h) (⟨hB6.trans hB6_d.symm, hB8.trans hB8_d.symm⟩) (by decide) (fun w hS => R.field1 Tryd.underlying57 rfl Tryd.underlying3 rfl rfl (recS q).at1) ?_
            refine AH.take 23 rfl (by kernel_rfl) (by kernel_rfl) (by kernel_rfl) (fun _ _ _ _ h => h) (⟨hB6.trans hB6_d.symm, hB8.trans hB8_d.symm⟩) (by decide) (fun w hS => R.build (parts := [(0, _), (1, _)]) (vals := [(0, _), (1, _)]) rfl (fun w => build25_2 _ _ w)) ?_
            refine AH.take 24 rfl (by kernel_rfl) (by kernel_rfl) (by kernel_rfl) (fun _ _ _ _ h => h) (⟨hB6.trans hB6_d.symm, hB8.trans hB8_d.symm⟩) (by decide) (fun w hS => R.build (parts := [(0, _), (1, _), (2, _), (3, _), (4, _), (5, _)]) (vals := [(0, _), (1, _), (2, _), (3, _), (4, _), (5, _)]) rfl (fun w => build33_6 _ _ _ _ _ _ _ w)) ?_
            refine AH.eff 26 (by kernel_rfl) rfl rfl (OP.storeM rfl rfl hB9 ?_)
            intro w22 hc_w22 hs_w22 hB9
            have hB6 := hc_w22.at hB6 (fun e => by omega)
            have hB8 := hc_w22.at hB8 (fun e => by omega)
            have hN := hc_w22.at hN (fun e => by omega)
            have hC := hC.thenB hc_w22 (by omega)
            refine ⟨⟨hB6.trans hB6_d.symm, hB8.trans hB8_d.symm⟩, ?_⟩
            refine AH.done (by kernel_rfl) ?_
            exact EW.cutK [3, 8, 9] ⟨b9, _, hC, rfl, by omega, by omega, by omega, by omega, by omega, rfl, hB8, hB9⟩
        · skip
          refine (OP.call (by decide) Tryd.func48 (by kernel_rfl) (by kernel_rfl) rfl (record_any _ _ hq) ?_)
          rintro ed w23 ⟨rfl, hc_w23⟩
          refine ⟨_, rfl, ?_⟩
          have hB6 := hc_w23.at hB6 (fun e => e)
          have hB8 := hc_w23.at hB8 (fun e => e)
          have hN := hc_w23.at hN (fun e => e)
          have hC := hC.trans hc_w23
          have hz_w23 := hc_w23.size
          refine ⟨⟨hB6.trans hB6_d.symm, hB8.trans hB8_d.symm⟩, ?_⟩
          refine AH.take 22 rfl (by kernel_rfl) (by kernel_rfl) (by kernel_rfl) (fun _ _ _ _ h => h) (⟨hB6.trans hB6_d.symm, hB8.trans hB8_d.symm⟩) (by decide) (fun w hS => R.field1 Tryd.underlying57 rfl Tryd.underlying3 rfl rfl (recS q).at1) ?_
          refine AH.take 23 rfl (by kernel_rfl) (by kernel_rfl) (by kernel_rfl) (fun _ _ _ _ h => h) (⟨hB6.trans hB6_d.symm, hB8.trans hB8_d.symm⟩) (by decide) (fun w hS => R.build (parts := [(0, _), (1, _)]) (vals := [(0, _), (1, _)]) rfl (fun w => build25_2 _ _ w)) ?_
          refine AH.either 16 25 (by kernel_rfl) rfl rfl rfl rfl ?_ ?_
          · skip
            refine (OP.val (by decide) (R.load Tryd.underlying3 rfl rfl (by rw [Nat.zero_add, Nat.mul_one]; exact cell_at hN (by rw [List.getElem?_toArray, List.getElem?_map, codeN_at f]; rfl))) ?_)
            refine ⟨⟨hB6.trans hB6_d.symm, hB8.trans hB8_d.symm⟩, ?_⟩
            refine AH.take 24 rfl (by kernel_rfl) (by kernel_rfl) (by kernel_rfl) (fun _ _ _ _ h => h) (⟨hB6.trans hB6_d.symm, hB8.trans hB8_d.symm⟩) (by decide) (fun w hS => R.build (parts := [(0, _), (1, _), (2, _), (3, _), (4, _), (5, _)]) (vals := [(0, _), (1, _), (2, _), (3, _), (4, _), (5, _)]) rfl (fun w => build33_6 _ _ _ _ _ _ _ w)) ?_
            refine AH.eff 25 (by kernel_rfl) rfl rfl (OP.allocM (by decide) ?_)
            intro w24 hc_w24 hs_w24 hB9
            obtain ⟨b9, he_b9⟩ : ∃ b, b = w23.heap.size := ⟨_, rfl⟩
            rw [← he_b9] at hB9 ⊢
            have hB6 := hc_w24.at hB6 (fun e => e)
            have hB8 := hc_w24.at hB8 (fun e => e)
            have hN := hc_w24.at hN (fun e => e)
            have hC := hC.trans hc_w24
            have hz_w24 := hc_w24.size
            refine ⟨⟨hB6.trans hB6_d.symm, hB8.trans hB8_d.symm⟩, ?_⟩
            refine AH.eff 26 (by kernel_rfl) rfl rfl (OP.storeM rfl rfl hB9 ?_)
            intro w25 hc_w25 hs_w25 hB9
            have hB6 := hc_w25.at hB6 (fun e => by omega)
            have hB8 := hc_w25.at hB8 (fun e => by omega)
            have hN := hc_w25.at hN (fun e => by omega)
            have hC := hC.thenB hc_w25 (by omega)
            refine ⟨⟨hB6.trans hB6_d.symm, hB8.trans hB8_d.symm⟩, ?_⟩
            refine AH.done (by kernel_rfl) ?_
            exact EW.cutK [3, 8, 9] ⟨b9, _, hC, rfl, by omega, by omega, by omega, by omega, by omega, rfl, hB8, hB9⟩
          · skip
            refine (OP.allocM (by decide) ?_)
            intro w26 hc_w26 hs_w26 hB9
            obtain ⟨b9, he_b9⟩ : ∃ b, b = w23.heap.size := ⟨_, rfl⟩
            rw [← he_b9] at hB9 ⊢
            have hB6 := hc_w26.at hB6 (fun e => e)
            have hB8 := hc_w26.at hB8 (fun e => e)
            have hN := hc_w26.at hN (fun e => e)
            have hC := hC.trans hc_w26
            have hz_w26 := hc_w26.size
            refine ⟨⟨hB6.trans hB6_d.symm, hB8.trans hB8_d.symm⟩, ?_⟩
            refine AH.eff 16 (by kernel_rfl) rfl rfl (OP.val (by decide) (R.load Tryd.underlying3 rfl rfl (by rw [Nat.zero_add, Nat.mul_one]; exact cell_at hN (by rw [List.getElem?_toArray, List.getElem?_map, codeN_at f]; rfl))) ?_)
            refine ⟨⟨hB6.trans hB6_d.symm, hB8.trans hB8_d.symm⟩, ?_⟩
            refine AH.take 24 rfl (by kernel_rfl) (by kernel_rfl) (by kernel_rfl) (fun _ _ _ _ h => h) (⟨hB6.trans hB6_d.symm, hB8.trans hB8_d.symm⟩) (by decide) (fun w hS => R.build (parts := [(0, _), (1, _), (2, _), (3, _), (4, _), (5, _)]) (vals := [(0, _), (1, _), (2, _), (3, _), (4, _), (5, _)]) rfl (fun w => build33_6 _ _ _ _ _ _ _ w)) ?_
            refine AH.eff 26 (by kernel_rfl) rfl rfl (OP.storeM rfl rfl hB9 ?_)
            intro w27 hc_w27 hs_w27 hB9
            have hB6 := hc_w27.at hB6 (fun e => by omega)
            have hB8 := hc_w27.at hB8 (fun e => by omega)
            have hN := hc_w27.at hN (fun e => by omega)
            have hC := hC.thenB hc_w27 (by omega)
            refine ⟨⟨hB6.trans hB6_d.symm, hB8.trans hB8_d.symm⟩, ?_⟩
            refine AH.done (by kernel_rfl) ?_
            exact EW.cutK [3, 8, 9] ⟨b9, _, hC, rfl, by omega, by omega, by omega, by omega, by omega, rfl, hB8, hB9⟩
        · skip
          refine (OP.allocM (by decide) ?_)
          intro w28 hc_w28 hs_w28 hB9
          obtain ⟨b9, he_b9⟩ : ∃ b, b = w16.heap.size := ⟨_, rfl⟩
          rw [← he_b9] at hB9 ⊢
          have hB6 := hc_w28.at hB6 (fun e => e)
          have hB8 := hc_w28.at hB8 (fun e => e)
          have hN := hc_w28.at hN (fun e => e)
          have hC := hC.trans hc_w28
          have hz_w28 := hc_w28.size
          refine ⟨⟨hB6.trans hB6_d.symm, hB8.trans hB8_d.symm⟩, ?_⟩
          refine AH.either 16 21 (by kernel_rfl) rfl rfl rfl rfl ?_ ?_
          · skip
            refine (OP.val (by decide) (R.load Tryd.underlying3 rfl rfl (by rw [Nat.zero_add, Nat.mul_one]; exact cell_at hN (by rw [List.getElem?_toArray, List.getElem?_map, codeN_at f]; rfl))) ?_)
            refine ⟨⟨hB6.trans hB6_d.symm, hB8.trans hB8_d.symm⟩, ?_⟩
            refine AH.eff 21 (by kernel_rfl) rfl rfl (OP.call (by decide) Tryd.func48 (by kernel_rfl) (by kernel_rfl) rfl (record_any _ _ hq) ?_)
            rintro ed w29 ⟨rfl, hc_w29⟩
            refine ⟨_, rfl, ?_⟩
            have hB6 := hc_w29.at hB6 (fun e => e)
            have hB8 := hc_w29.at hB8 (fun e => e)
            have hN := hc_w29.at hN (fun e => e)
            have hB9 := hc_w29.at hB9 (fun e => e)
            have hC := hC.trans hc_w29
            have hz_w29 := hc_w29.size
            refine ⟨⟨hB6.trans hB6_d.symm, hB8.trans hB8_d.symm⟩, ?_⟩
            refine AH.take 22 rfl (by kernel_rfl) (by kernel_rfl) (by kernel_rfl) (fun _ _ _ _ h => h) (⟨hB6.trans hB6_d.symm, hB8.trans hB8_d.symm⟩) (by decide) (fun w hS => R.field1 Tryd.underlying57 rfl Tryd.underlying3 rfl rfl (recS q).at1) ?_
            refine AH.take 23 rfl (by kernel_rfl) (by kernel_rfl) (by kernel_rfl) (fun _ _ _ _ h => h) (⟨hB6.trans hB6_d.symm, hB8.trans hB8_d.symm⟩) (by decide) (fun w hS => R.build (parts := [(0, _), (1, _)]) (vals := [(0, _), (1, _)]) rfl (fun w => build25_2 _ _ w)) ?_
            refine AH.take 24 rfl (by kernel_rfl) (by kernel_rfl) (by kernel_rfl) (fun _ _ _ _ h => h) (⟨hB6.trans hB6_d.symm, hB8.trans hB8_d.symm⟩) (by decide) (fun w hS => R.build (parts := [(0, _), (1, _), (2, _), (3, _), (4, _), (5, _)]) (vals := [(0, _), (1, _), (2, _), (3, _), (4, _), (5, _)]) rfl (fun w => build33_6 _ _ _ _ _ _ _ w)) ?_
            refine AH.eff 26 (by kernel_rfl) rfl rfl (OP.storeM rfl rfl hB9 ?_)
            intro w30 hc_w30 hs_w30 hB9
            have hB6 := hc_w30.at hB6 (fun e => by omega)
            have hB8 := hc_w30.at hB8 (fun e => by omega)
            have hN := hc_w30.at hN (fun e => by omega)
            have hC := hC.thenB hc_w30 (by omega)
            refine ⟨⟨hB6.trans hB6_d.symm, hB8.trans hB8_d.symm⟩, ?_⟩
            refine AH.done (by kernel_rfl) ?_
            exact EW.cutK [3, 8, 9] ⟨b9, _, hC, rfl, by omega, by omega, by omega, by omega, by omega, rfl, hB8, hB9⟩
          · skip
            refine (OP.call (by decide) Tryd.func48 (by kernel_rfl) (by kernel_rfl) rfl (record_any _ _ hq) ?_)
            rintro ed w31 ⟨rfl, hc_w31⟩
            refine ⟨_, rfl, ?_⟩
            have hB6 := hc_w31.at hB6 (fun e => e)
            have hB8 := hc_w31.at hB8 (fun e => e)
            have hN := hc_w31.at hN (fun e => e)
            have hB9 := hc_w31.at hB9 (fun e => e)
            have hC := hC.trans hc_w31
            have hz_w31 := hc_w31.size
            refine ⟨⟨hB6.trans hB6_d.symm, hB8.trans hB8_d.symm⟩, ?_⟩
            refine AH.take 22 rfl (by kernel_rfl) (by kernel_rfl) (by kernel_rfl) (fun _ _ _ _ h => h) (⟨hB6.trans hB6_d.symm, hB8.trans hB8_d.symm⟩) (by decide) (fun w hS => R.field1 Tryd.underlying57 rfl Tryd.underlying3 rfl rfl (recS q).at1) ?_
            refine AH.take 23 rfl (by kernel_rfl) (by kernel_rfl) (by kernel_rfl) (fun _ _ _ _ h => h) (⟨hB6.trans hB6_d.symm, hB8.trans hB8_d.symm⟩) (by decide) (fun w hS => R.build (parts := [(0, _), (1, _)]) (vals := [(0, _), (1, _)]) rfl (fun w => build25_2 _ _ w)) ?_
            refine AH.eff 16 (by kernel_rfl) rfl rfl (OP.val (by decide) (R.load Tryd.underlying3 rfl rfl (by rw [Nat.zero_add, Nat.mul_one]; exact cell_at hN (by rw [List.getElem?_toArray, List.getElem?_map, codeN_at f]; rfl))) ?_)
            refine ⟨⟨hB6.trans hB6_d.symm, hB8.trans hB8_d.symm⟩, ?_⟩
            refine AH.take 24 rfl (by kernel_rfl) (by kernel_rfl) (by kernel_rfl) (fun _ _ _ _ h => h) (⟨hB6.trans hB6_d.symm, hB8.trans hB8_d.symm⟩) (by decide) (fun w hS => R.build (parts := [(0, _), (1, _), (2, _), (3, _), (4, _), (5, _)]) (vals := [(0, _), (1, _), (2, _), (3, _), (4, _), (5, _)]) rfl (fun w => build33_6 _ _ _ _ _ _ _ w)) ?_
            refine AH.eff 26 (by kernel_rfl) rfl rfl (OP.storeM rfl rfl hB9 ?_)
            intro w32 hc_w32 hs_w32 hB9
            have hB6 := hc_w32.at hB6 (fun e => by omega)
            have hB8 := hc_w32.at hB8 (fun e => by omega)
            have hN := hc_w32.at hN (fun e => by omega)
            have hC := hC.thenB hc_w32 (by omega)
            refine ⟨⟨hB6.trans hB6_d.symm, hB8.trans hB8_d.symm⟩, ?_⟩
            refine AH.done (by kernel_rfl) ?_
            exact EW.cutK [3, 8, 9] ⟨b9, _, hC, rfl, by omega, by omega, by omega, by omega, by omega, rfl, hB8, hB9⟩
      · skip
        refine (OP.allocM (by decide) ?_)
        intro w33 hc_w33 hs_w33 hB9
        obtain ⟨b9, he_b9⟩ : ∃ b, b = w4.heap.size := ⟨_, rfl⟩
        rw [← he_b9] at hB9 ⊢
        have hB6 := hc_w33.at hB6 (fun e => e)
        have hB8 := hc_w33.at hB8 (fun e => e)
        have hN := hc_w33.at hN (fun e => e)
        have hC := hC.trans hc_w33
        have hz_w33 := hc_w33.size
        refine ⟨⟨hB6.trans hB6_d.symm, hB8.trans hB8_d.symm⟩, ?_⟩
        refine AH.either 16 19 (by kernel_rfl) rfl rfl rfl rfl ?_ ?_
        · skip
          refine (OP.val (by decide) (R.load Tryd.underlying3 rfl rfl (by rw [Nat.zero_add, Nat.mul_one]; exact cell_at hN (by rw [List.getElem?_toArray, List.getElem?_map, codeN_at f]; rfl))) ?_)
          refine ⟨⟨hB6.trans hB6_d.symm, hB8.trans hB8_d.symm⟩, ?_⟩
          refine AH.eff 19 (by kernel_rfl) rfl rfl (OP.call (by decide) Tryd.func33 (by kernel_rfl) (by kernel_rfl) rfl (name_any _ _) ?_)
          rintro ed w34 ⟨rfl, hc_w34⟩
          refine ⟨_, rfl, ?_⟩
          have hB6 := hc_w34.at hB6 (fun e => e)
          have hB8 := hc_w34.at hB8 (fun e => e)
          have hN := hc_w34.at hN (fun e => e)
          have hB9 := hc_w34.at hB9 (fun e => e)
          have hC := hC.trans hc_w34
          have hz_w34 := hc_w34.size
          refine ⟨⟨hB6.trans hB6_d.symm, hB8.trans hB8_d.symm⟩, ?_⟩
          refine AH.eff 21 (by kernel_rfl) rfl rfl (OP.call (by decide) Tryd.func48 (by kernel_rfl) (by kernel_rfl) rfl (record_any _ _ hq) ?_)
          rintro ed w35 ⟨rfl, hc_w35⟩
          refine ⟨_, rfl, ?_⟩
          have hB6 := hc_w35.at hB6 (fun e => e)
          have hB8 := hc_w35.at hB8 (fun e => e)
          have hN := hc_w35.at hN (fun e => e)
          have hB9 := hc_w35.at hB9 (fun e => e)
          have hC := hC.trans hc_w35
          have hz_w35 := hc_w35.size
          refine ⟨⟨hB6.trans hB6_d.symm, hB8.trans hB8_d.symm⟩, ?_⟩
          refine AH.take 22 rfl (by kernel_rfl) (by kernel_rfl) (by kernel_rfl) (fun _ _ _ _ h => h) (⟨hB6.trans hB6_d.symm, hB8.trans hB8_d.symm⟩) (by decide) (fun w hS => R.field1 Tryd.underlying57 rfl Tryd.underlying3 rfl rfl (recS q).at1) ?_
          refine AH.take 23 rfl (by kernel_rfl) (by kernel_rfl) (by kernel_rfl) (fun _ _ _ _ h => h) (⟨hB6.trans hB6_d.symm, hB8.trans hB8_d.symm⟩) (by decide) (fun w hS => R.build (parts := [(0, _), (1, _)]) (vals := [(0, _), (1, _)]) rfl (fun w => build25_2 _ _ w)) ?_
          refine AH.take 24 rfl (by kernel_rfl) (by kernel_rfl) (by kernel_rfl) (fun _ _ _ _ h => h) (⟨hB6.trans hB6_d.symm, hB8.trans hB8_d.symm⟩) (by decide) (fun w hS => R.build (parts := [(0, _), (1, _), (2, _), (3, _), (4, _), (5, _)]) (vals := [(0, _), (1, _), (2, _), (3, _), (4, _), (5, _)]) rfl (fun w => build33_6 _ _ _ _ _ _ _ w)) ?_
          refine AH.eff 26 (by kernel_rfl) rfl rfl (OP.storeM rfl rfl hB9 ?_)
          intro w36 hc_w36 hs_w36 hB9
          have hB6 := hc_w36.at hB6 (fun e => by omega)
          have hB8 := hc_w36.at hB8 (fun e => by omega)
          have hN := hc_w36.at hN (fun e => by omega)
          have hC := hC.thenB hc_w36 (by omega)
          refine ⟨⟨hB6.trans hB6_d.symm, hB8.trans hB8_d.symm⟩, ?_⟩
          refine AH.done (by kernel_rfl) ?_
          exact EW.cutK [3, 8, 9] ⟨b9, _, hC, rfl, by omega, by omega, by omega, by omega, by omega, rfl, hB8, hB9⟩
        · skip
          refine (OP.call (by decide) Tryd.func33 (by kernel_rfl) (by kernel_rfl) rfl (name_any _ _) ?_)
          rintro ed w37 ⟨rfl, hc_w37⟩
          refine ⟨_, rfl, ?_⟩
          have hB6 := hc_w37.at hB6 (fun e => e)
          have hB8 := hc_w37.at hB8 (fun e => e)
          have hN := hc_w37.at hN (fun e => e)
          have hB9 := hc_w37.at hB9 (fun e => e)
          have hC := hC.trans hc_w37
          have hz_w37 := hc_w37.size
          refine ⟨⟨hB6.trans hB6_d.symm, hB8.trans hB8_d.symm⟩, ?_⟩
          refine AH.either 16 21 (by kernel_rfl) rfl rfl rfl rfl ?_ ?_
          · skip
            refine (OP.val (by decide) (R.load Tryd.underlying3 rfl rfl (by rw [Nat.zero_add, Nat.mul_one]; exact cell_at hN (by rw [List.getElem?_toArray, List.getElem?_map, codeN_at f]; rfl))) ?_)
            refine ⟨⟨hB6.trans hB6_d.symm, hB8.trans hB8_d.symm⟩, ?_⟩
            refine AH.eff 21 (by kernel_rfl) rfl rfl (OP.call (by decide) Tryd.func48 (by kernel_rfl) (by kernel_rfl) rfl (record_any _ _ hq) ?_)
            rintro ed w38 ⟨rfl, hc_w38⟩
            refine ⟨_, rfl, ?_⟩
            have hB6 := hc_w38.at hB6 (fun e => e)
            have hB8 := hc_w38.at hB8 (fun e => e)
            have hN := hc_w38.at hN (fun e => e)
            have hB9 := hc_w38.at hB9 (fun e => e)
            have hC := hC.trans hc_w38
            have hz_w38 := hc_w38.size
            refine ⟨⟨hB6.trans hB6_d.symm, hB8.trans hB8_d.symm⟩, ?_⟩
            refine AH.take 22 rfl (by kernel_rfl) (by kernel_rfl) (by kernel_rfl) (fun _ _ _ _ h => h) (⟨hB6.trans hB6_d.symm, hB8.trans hB8_d.symm⟩) (by decide) (fun w hS => R.field1 Tryd.underlying57 rfl Tryd.underlying3 rfl rfl (recS q).at1) ?_
            refine AH.take 23 rfl (by kernel_rfl) (by kernel_rfl) (by kernel_rfl) (fun _ _ _ _ h => h) (⟨hB6.trans hB6_d.symm, hB8.trans hB8_d.symm⟩) (by decide) (fun w hS => R.build (parts := [(0, _), (1, _)]) (vals := [(0, _), (1, _)]) rfl (fun w => build25_2 _ _ w)) ?_
            refine AH.take 24 rfl (by kernel_rfl) (by kernel_rfl) (by kernel_rfl) (fun _ _ _ _ h => h) (⟨hB6.trans hB6_d.symm, hB8.trans hB8_d.symm⟩) (by decide) (fun w hS => R.build (parts := [(0, _), (1, _), (2, _), (3, _), (4, _), (5, _)]) (vals := [(0, _), (1, _), (2, _), (3, _), (4, _), (5, _)]) rfl (fun w => build33_6 _ _ _ _ _ _ _ w)) ?_
            refine AH.eff 26 (by kernel_rfl) rfl rfl (OP.storeM rfl rfl hB9 ?_)
            intro w39 hc_w39 hs_w39 hB9
            have hB6 := hc_w39.at hB6 (fun e => by omega)
            have hB8 := hc_w39.at hB8 (fun e => by omega)
            have hN := hc_w39.at hN (fun e => by omega)
            have hC := hC.thenB hc_w39 (by omega)
            refine ⟨⟨hB6.trans hB6_d.symm, hB8.trans hB8_d.symm⟩, ?_⟩
            refine AH.done (by kernel_rfl) ?_
            exact EW.cutK [3, 8, 9] ⟨b9, _, hC, rfl, by omega, by omega, by omega, by omega, by omega, rfl, hB8, hB9⟩
          · skip
            refine (OP.call (by decide) Tryd.func48 (by kernel_rfl) (by kernel_rfl) rfl (record_any _ _ hq) ?_)
            rintro ed w40 ⟨rfl, hc_w40⟩
            refine ⟨_, rfl, ?_⟩
            have hB6 := hc_w40.at hB6 (fun e => e)
            have hB8 := hc_w40.at hB8 (fun e => e)
            have hN := hc_w40.at hN (fun e => e)
            have hB9 := hc_w40.at hB9 (fun e => e)
            have hC := hC.trans hc_w40
            have hz_w40 := hc_w40.size
            refine ⟨⟨hB6.trans hB6_d.symm, hB8.trans hB8_d.symm⟩, ?_⟩
            refine AH.take 22 rfl (by kernel_rfl) (by kernel_rfl) (by kernel_rfl) (fun _ _ _ _ h => h) (⟨hB6.trans hB6_d.symm, hB8.trans hB8_d.symm⟩) (by decide) (fun w hS => R.field1 Tryd.underlying57 rfl Tryd.underlying3 rfl rfl (recS q).at1) ?_
            refine AH.take 23 rfl (by kernel_rfl) (by kernel_rfl) (by kernel_rfl) (fun _ _ _ _ h => h) (⟨hB6.trans hB6_d.symm, hB8.trans hB8_d.symm⟩) (by decide) (fun w hS => R.build (parts := [(0, _), (1, _)]) (vals := [(0, _), (1, _)]) rfl (fun w => build25_2 _ _ w)) ?_
            refine AH.eff 16 (by kernel_rfl) rfl rfl (OP.val (by decide) (R.load Tryd.underlying3 rfl rfl (by rw [Nat.zero_add, Nat.mul_one]; exact cell_at hN (by rw [List.getElem?_toArray, List.getElem?_map, codeN_at f]; rfl))) ?_)
            refine ⟨⟨hB6.trans hB6_d.symm, hB8.trans hB8_d.symm⟩, ?_⟩
            refine AH.take 24 rfl (by kernel_rfl) (by kernel_rfl) (by kernel_rfl) (fun _ _ _ _ h => h) (⟨hB6.trans hB6_d.symm, hB8.trans hB8_d.symm⟩) (by decide) (fun w hS => R.build (parts := [(0, _), (1, _), (2, _), (3, _), (4, _), (5, _)]) (vals := [(0, _), (1, _), (2, _), (3, _), (4, _), (5, _)]) rfl (fun w => build33_6 _ _ _ _ _ _ _ w)) ?_
            refine AH.eff 26 (by kernel_rfl) rfl rfl (OP.storeM rfl rfl hB9 ?_)
            intro w41 hc_w41 hs_w41 hB9
            have hB6 := hc_w41.at hB6 (fun e => by omega)
            have hB8 := hc_w41.at hB8 (fun e => by omega)
            have hN := hc_w41.at hN (fun e => by omega)
            have hC := hC.thenB hc_w41 (by omega)
            refine ⟨⟨hB6.trans hB6_d.symm, hB8.trans hB8_d.symm⟩, ?_⟩
            refine AH.done (by kernel_rfl) ?_
            exact EW.cutK [3, 8, 9] ⟨b9, _, hC, rfl, by omega, by omega, by omega, by omega, by omega, rfl, hB8, hB9⟩
    · skip
      refine (OP.call (by decide) Tryd.func33 (by kernel_rfl) (by kernel_rfl) rfl (name_any _ _) ?_)
      rintro ed w42 ⟨rfl, hc_w42⟩
      refine ⟨_, rfl, ?_⟩
      have hB6 := hc_w42.at hB6 (fun e => e)
      have hB8 := hc_w42.at hB8 (fun e => e)
      have hC := hC.trans hc_w42
      have hz_w42 := hc_w42.size
      refine ⟨⟨hB6.trans hB6_d.symm, hB8.trans hB8_d.symm⟩, ?_⟩
      refine AH.three 11 21 25 (by kernel_rfl) rfl rfl rfl rfl rfl rfl ?_ ?_ ?_
      · skip
        refine (OP.buildSlice (parts := [(0, _), (1, _), (2, _), (3, _)]) (vals := [(0, _), (1, _), (2, _), (3, _)]) (cells := (codesA.map (Value.int .i64)).toArray) (ty := 3) (by decide) rfl slice_codes ?_)
        intro w43 hc_w43 hs_w43 hN
        obtain ⟨bN, he_bN⟩ : ∃ b, b = w42.heap.size := ⟨_, rfl⟩
        rw [← he_bN] at hN ⊢
        have hB6 := hc_w43.at hB6 (fun e => e)
        have hB8 := hc_w43.at hB8 (fun e => e)
        have hC := hC.trans hc_w43
        have hz_w43 := hc_w43.size
        refine ⟨⟨hB6.trans hB6_d.symm, hB8.trans hB8_d.symm⟩, ?_⟩
        refine AH.take 15 rfl (by kernel_rfl) (by kernel_rfl) (by kernel_rfl) (fun _ _ _ _ h => h) (⟨hB6.trans hB6_d.symm, hB8.trans hB8_d.symm⟩) (by decide) (fun w hS => R.indexAddr1 (i := (f / 2 ^ (3 : Int).toNat % 4).toNat) Tryd.underlying65 sz3 rfl rfl (by omega) (by omega)) ?_
        refine AH.three 16 21 25 (by kernel_rfl) rfl rfl rfl rfl rfl rfl ?_ ?_ ?_
        · skip
          refine (OP.val (by decide) (R.load Tryd.underlying3 rfl rfl (by rw [Nat.zero_add, Nat.mul_one]; exact cell_at hN (by rw [List.getElem?_toArray, List.getElem?_map, codeN_at f]; rfl))) ?_)
          refine ⟨⟨hB6.trans hB6_d.symm, hB8.trans hB8_d.symm⟩, ?_⟩
          refine AH.either 21 25 (by kernel_rfl) rfl rfl rfl rfl ?_ ?_
          · skip
            refine (OP.call (by decide) Tryd.func48 (by kernel_rfl) (by kernel_rfl) rfl (record_any _ _ hq) ?_)
            rintro ed w44 ⟨rfl, hc_w44⟩
            refine ⟨_, rfl, ?_⟩
            have hB6 := hc_w44.at hB6 (fun e => e)
            have hB8 := hc_w44.at hB8 (fun e => e)
            have hN := hc_w44.at hN (fun e => e)
            have hC := hC.trans hc_w44
            have hz_w44 := hc_w44.size
            refine ⟨⟨hB6.trans hB6_d.symm, hB8.trans hB8_d.symm⟩, ?_⟩
            refine AH.take 22 rfl (by kernel_rfl) (by kernel_rfl) (by kernel_rfl) (fun _ _ _ _ h => h) (⟨hB6.trans hB6_d.symm, hB8.trans hB8_d.symm⟩) (by decide) (fun w hS => R.field1 Tryd.underlying57 rfl Tryd.underlying3 rfl rfl (recS q).at1) ?_
            refine AH.take 23 rfl (by kernel_rfl) (by kernel_rfl) (by kernel_rfl) (fun _ _ _ _ h => h) (⟨hB6.trans hB6_d.symm, hB8.trans hB8_d.symm⟩) (by decide) (fun w hS => R.build (parts := [(0, _), (1, _)]) (vals := [(0, _), (1, _)]) rfl (fun w => build25_2 _ _ w)) ?_
            refine AH.take 24 rfl (by kernel_rfl) (by kernel_rfl) (by kernel_rfl) (fun _ _ _ _ h => h) (⟨hB6.trans hB6_d.symm, hB8.trans hB8_d.symm⟩) (by decide) (fun w hS => R.build (parts := [(0, _), (1, _), (2, _), (3, _), (4, _), (5, _)]) (vals := [(0, _), (1, _), (2, _), (3, _), (4, _), (5, _)]) rfl (fun w => build33_6 _ _ _ _ _ _ _ w)) ?_
            refine AH.eff 25 (by kernel_rfl) rfl rfl (OP.allocM (by decide) ?_)
            intro w45 hc_w45 hs_w45 hB9
            obtain ⟨b9, he_b9⟩ : ∃ b, b = w44.heap.size := ⟨_, rfl⟩
            rw [← he_b9] at hB9 ⊢
            have hB6 := hc_w45.at hB6 (fun e => e)
            have hB8 := hc_w45.at hB8 (fun e => e)
            have hN := hc_w45.at hN (fun e => e)
            have hC := hC.trans hc_w45
            have hz_w45 := hc_w45.size
            refine ⟨⟨hB6.trans hB6_d.symm, hB8.trans hB8_d.symm⟩, ?_⟩
            refine AH.eff 26 (by kernel_rfl) rfl rfl (OP.storeM rfl rfl hB9 ?_)
            intro w46 hc_w46 hs_w46 hB9
            have hB6 := hc_w46.at hB6 (fun e => by omega)
            have hB8 := hc_w46.at hB8 (fun e => by omega)
            have hN := hc_w46.at hN (fun e => by omega)
            have hC := hC.thenB hc_w46 (by omega)
            refine ⟨⟨hB6.trans hB6_d.symm, hB8.trans hB8_d.symm⟩, ?_⟩
            refine AH.done (by kernel_rfl) ?_
            exact EW.cutK [3, 8, 9] ⟨b9, _, hC, rfl, by omega, by omega, by omega, by omega, by omega, rfl, hB8, hB9⟩
          · skip
            refine (OP.allocM (by decide) ?_)
            intro w47 hc_w47 hs_w47 hB9
            obtain ⟨b9, he_b9⟩ : ∃ b, b = w43.heap.size := ⟨_, rfl⟩
            rw [← he_b9] at hB9 ⊢
            have hB6 := hc_w47.at hB6 (fun e => e)
            have hB8 := hc_w47.at hB8 (fun e => e)
            have hN := hc_w47.at hN (fun e => e)
            have hC := hC.trans hc_w47
            have hz_w47 := hc_w47.size
            refine ⟨⟨hB6.trans hB6_d.symm, hB8.trans hB8_d.symm⟩, ?_⟩
            refine AH.eff 21 (by kernel_rfl) rfl rfl (OP.call (by decide) Tryd.func48 (by kernel_rfl) (by kernel_rfl) rfl (record_any _ _ hq) ?_)
            rintro ed w48 ⟨rfl, hc_w48⟩
            refine ⟨_, rfl, ?_⟩
            have hB6 := hc_w48.at hB6 (fun e => e)
            have hB8 := hc_w48.at hB8 (fun e => e)
            have hN := hc_w48.at hN (fun e => e)
            have hB9 := hc_w48.at hB9 (fun e => e)
            have hC := hC.trans hc_w48
            have hz_w48 := hc_w48.size
            refine ⟨⟨hB6.trans hB6_d.symm, hB8.trans hB8_d.symm⟩, ?_⟩
            refine AH.take 22 rfl (by kernel_rfl) (by kernel_rfl) (by kernel_rfl) (fun _ _ _ _ h => h) (⟨hB6.trans hB6_d.symm, hB8.trans hB8_d.symm⟩) (by decide) (fun w hS => R.field1 Tryd.underlying57 rfl Tryd.underlying3 rfl rfl (recS q).at1) ?_
            refine AH.take 23 rfl (by kernel_rfl) (by kernel_rfl) (by kernel_rfl) (fun _ _ _ _ h => h) (⟨hB6.trans hB6_d.symm, hB8.trans hB8_d.symm⟩) (by decide) (fun w hS => R.build (parts := [(0, _), (1, _)]) (vals := [(0, _), (1, _)]) rfl (fun w => build25_2 _ _ w)) ?_
            refine AH.take 24 rfl (by kernel_rfl) (by kernel_rfl) (by kernel_rfl) (fun _ _ _ _ h => h) (⟨hB6.trans hB6_d.symm, hB8.trans hB8_d.symm⟩) (by decide) (fun w hS => R.build (parts := [(0, _), (1, _), (2, _), (3, _), (4, _), (5, _)]) (vals := [(0, _), (1, _), (2, _), (3, _), (4, _), (5, _)]) rfl (fun w => build33_6 _ _ _ _ _ _ _ w)) ?_
            refine AH.eff 26 (by kernel_rfl) rfl rfl (OP.storeM rfl rfl hB9 ?_)
            intro w49 hc_w49 hs_w49 hB9
            have hB6 := hc_w49.at hB6 (fun e => by omega)
            have hB8 := hc_w49.at hB8 (fun e => by omega)
            have hN := hc_w49.at hN (fun e => by omega)
            have hC := hC.thenB hc_w49 (by omega)
            refine ⟨⟨hB6.trans hB6_d.symm, hB8.trans hB8_d.symm⟩, ?_⟩
            refine AH.done (by kernel_rfl) ?_
            exact EW.cutK [3, 8, 9] ⟨b9, _, hC, rfl, by omega, by omega, by omega, by omega, by omega, rfl, hB8, hB9⟩
        · skip
          refine (OP.call (by decide) Tryd.func48 (by kernel_rfl) (by kernel_rfl) rfl (record_any _ _ hq) ?_)
          rintro ed w50 ⟨rfl, hc_w50⟩
          refine ⟨_, rfl, ?_⟩
          have hB6 := hc_w50.at hB6 (fun e => e)
          have hB8 := hc_w50.at hB8 (fun e => e)
          have hN := hc_w50.at hN (fun e => e)
          have hC := hC.trans hc_w50
          have hz_w50 := hc_w50.size
          refine ⟨⟨hB6.trans hB6_d.symm, hB8.trans hB8_d.symm⟩, ?_⟩
          refine AH.take 22 rfl (by kernel_rfl) (by kernel_rfl) (by kernel_rfl) (fun _ _ _ _ h => h) (⟨hB6.trans hB6_d.symm, hB8.trans hB8_d.symm⟩) (by decide) (fun w hS => R.field1 Tryd.underlying57 rfl Tryd.underlying3 rfl rfl (recS q).at1) ?_
          refine AH.take 23 rfl (by kernel_rfl) (by kernel_rfl) (by kernel_rfl) (fun _ _ _ _ h => h) (⟨hB6.trans hB6_d.symm, hB8.trans hB8_d.symm⟩) (by decide) (fun w hS => R.build (parts := [(0, _), (1, _)]) (vals := [(0, _), (1, _)]) rfl (fun w => build25_2 _ _ w)) ?_
          refine AH.either 16 25 (by kernel_rfl) rfl rfl rfl rfl ?_ ?_
          · skip
            refine (OP.val (by decide) (R.load Tryd.underlying3 rfl rfl (by rw [Nat.zero_add, Nat.mul_one]; exact cell_at hN (by rw [List.getElem?_toArray, List.getElem?_map, codeN_at f]; rfl))) ?_)
            refine ⟨⟨hB6.trans hB6_d.symm, hB8.trans hB8_d.symm⟩, ?_⟩
            refine AH.take 24 rfl (by kernel_rfl) (by kernel_rfl) (by kernel_rfl) (fun _ _ _ _ h => h) (⟨hB6.trans hB6_d.symm, hB8.trans hB8_d.symm⟩) (by decide) (fun w hS => R.build (parts := [(0, _), (1, _), (2, _), (3, _), (4, _), (5, _)]) (vals := [(0, _), (1, _), (2, _), (3, _), (4, _), (5, _)]) rfl (fun w => build33_6 _ _ _ _ _ _ _ w)) ?_
            refine AH.eff 25 (by kernel_rfl) rfl rfl (OP.allocM (by decide) ?_)
            intro w51 hc_w51 hs_w51 hB9
            obtain ⟨b9, he_b9⟩ : ∃ b, b = w50.heap.size := ⟨_, rfl⟩
            rw [← he_b9] at hB9 ⊢
            have hB6 := hc_w51.at hB6 (fun e => e)
            have hB8 := hc_w51.at hB8 (fun e => e)
            have hN := hc_w51.at hN (fun e => e)
            have hC := hC.trans hc_w51
            have hz_w51 := hc_w51.size
            refine ⟨⟨hB6.trans hB6_d.symm, hB8.trans hB8_d.symm⟩, ?_⟩
            refine AH.eff 26 (by kernel_rfl) rfl rfl (OP.storeM rfl rfl hB9 ?_)
            intro w52 hc_w52 hs_w52 hB9
            have hB6 := hc_w52.at hB6 (fun e => by omega)
            have hB8 := hc_w52.at hB8 (fun e => by omega)
            have hN := hc_w52.at hN (fun e => by omega)
            have hC := hC.thenB hc_w52 (by omega)
            refine ⟨⟨hB6.trans hB6_d.symm, hB8.trans hB8_d.symm⟩, ?_⟩
            refine AH.done (by kernel_rfl) ?_
            exact EW.cutK [3, 8, 9] ⟨b9, _, hC, rfl, by omega, by omega, by omega, by omega, by omega, rfl, hB8, hB9⟩
          · skip
            refine (OP.allocM (by decide) ?_)
            intro w53 hc_w53 hs_w53 hB9
            obtain ⟨b9, he_b9⟩ : ∃ b, b = w50.heap.size := ⟨_, rfl⟩
            rw [← he_b9] at hB9 ⊢
            have hB6 := hc_w53.at hB6 (fun e => e)
            have hB8 := hc_w53.at hB8 (fun e => e)
            have hN := hc_w53.at hN (fun e => e)
            have hC := hC.trans hc_w53
            have hz_w53 := hc_w53.size
            refine ⟨⟨hB6.trans hB6_d.symm, hB8.trans hB8_d.symm⟩, ?_⟩
            refine AH.eff 16 (by kernel_rfl) rfl rfl (OP.val (by decide) (R.load Tryd.underlying3 rfl rfl (by rw [Nat.zero_add, Nat.mul_one]; exact cell_at hN (by rw [List.getElem?_toArray, List.getElem?_map, codeN_at f]; rfl))) ?_)
            refine ⟨⟨hB6.trans hB6_d.symm, hB8.trans hB8_d.symm⟩, ?_⟩
            refine AH.take 24 rfl (by kernel_rfl) (by kernel_rfl) (by kernel_rfl) (fun _ _ _ _ h => h) (⟨hB6.trans hB6_d.symm, hB8.trans hB8_d.symm⟩) (by decide) (fun w hS => R.build (parts := [(0, _), (1, _), (2, _), (3, _), (4, _), (5, _)]) (vals := [(0, _), (1, _), (2, _), (3, _), (4, _), (5, _)]) rfl (fun w => build33_6 _ _ _ _ _ _ _ w)) ?_
            refine AH.eff 26 (by kernel_rfl) rfl rfl (OP.storeM rfl rfl hB9 ?_)
            intro w54 hc_w54 hs_w54 hB9
            have hB6 := hc_w54.at hB6 (fun e => by omega)
            have hB8 := hc_w54.at hB8 (fun e => by omega)
            have hN := hc_w54.at hN (fun e => by omega)
            have hC := hC.thenB hc_w54 (by omega)
            refine ⟨⟨hB6.trans hB6_d.symm, hB8.trans hB8_d.symm⟩, ?_⟩
            refine AH.done (by kernel_rfl) ?_
            exact EW.cutK [3, 8, 9] ⟨b9, _, hC, rfl, by omega, by omega, by omega, by omega, by omega, rfl, hB8, hB9⟩
        · skip
          refine (OP.allocM (by decide) ?_)
          intro w55 hc_w55 hs_w55 hB9
          obtain ⟨b9, he_b9⟩ : ∃ b, b = w43.heap.size := ⟨_, rfl⟩
          rw [← he_b9] at hB9 ⊢
          have hB6 := hc_w55.at hB6 (fun e => e)
          have hB8 := hc_w55.at hB8 (fun e => e)
          have hN := hc_w55.at hN (fun e => e)
          have hC := hC.trans hc_w55
          have hz_w55 := hc_w55.size
          refine ⟨⟨hB6.trans hB6_d.symm, hB8.trans hB8_d.symm⟩, ?_⟩
          refine AH.either 16 21 (by kernel_rfl) rfl rfl rfl rfl ?_ ?_
          · skip
            refine (OP.val (by decide) (R.load Tryd.underlying3 rfl rfl (by rw [Nat.zero_add, Nat.mul_one]; exact cell_at hN (by rw [List.getElem?_toArray, List.getElem?_map, codeN_at f]; rfl))) ?_)
            refine ⟨⟨hB6.trans hB6_d.symm, hB8.trans hB8_d.symm⟩, ?_⟩
            refine AH.eff 21 (by kernel_rfl) rfl rfl (OP.call (by decide) Tryd.func48 (by kernel_rfl) (by kernel_rfl) rfl (record_any _ _ hq) ?_)
            rintro ed w56 ⟨rfl, hc_w56⟩
            refine ⟨_, rfl, ?_⟩
            have hB6 := hc_w56.at hB6 (fun e => e)
            have hB8 := hc_w56.at hB8 (fun e => e)
            have hN := hc_w56.at hN (fun e => e)
            have hB9 := hc_w56.at hB9 (fun e => e)
            have hC := hC.trans hc_w56
            have hz_w56 := hc_w56.size
            refine ⟨⟨hB6.trans hB6_d.symm, hB8.trans hB8_d.symm⟩, ?_⟩
            refine AH.take 22 rfl (by kernel_rfl) (by kernel_rfl) (by kernel_rfl) (fun _ _ _ _ h => h) (⟨hB6.trans hB6_d.symm, hB8.trans hB8_d.symm⟩) (by decide) (fun w hS => R.field1 Tryd.underlying57 rfl Tryd.underlying3 rfl rfl (recS q).at1) ?_
            refine AH.take 23 rfl (by kernel_rfl) (by kernel_rfl) (by kernel_rfl) (fun _ _ _ _ h => h) (⟨hB6.trans hB6_d.symm, hB8.trans hB8_d.symm⟩) (by decide) (fun w hS => R.build (parts := [(0, _), (1, _)]) (vals := [(0, _), (1, _)]) rfl (fun w => build25_2 _ _ w)) ?_
            refine AH.take 24 rfl (by kernel_rfl) (by kernel_rfl) (by kernel_rfl) (fun _ _ _ _ h => h) (⟨hB6.trans hB6_d.symm, hB8.trans hB8_d.symm⟩) (by decide) (fun w hS => R.build (parts := [(0, _), (1, _), (2, _), (3, _), (4, _), (5, _)]) (vals := [(0, _), (1, _), (2, _), (3, _), (4, _), (5, _)]) rfl (fun w => build33_6 _ _ _ _ _ _ _ w)) ?_
            refine AH.eff 26 (by kernel_rfl) rfl rfl (OP.storeM rfl rfl hB9 ?_)
            intro w57 hc_w57 hs_w57 hB9
            have hB6 := hc_w57.at hB6 (fun e => by omega)
            have hB8 := hc_w57.at hB8 (fun e => by omega)
            have hN := hc_w57.at hN (fun e => by omega)
            have hC := hC.thenB hc_w57 (by omega)
            refine ⟨⟨hB6.trans hB6_d.symm, hB8.trans hB8_d.symm⟩, ?_⟩
            refine AH.done (by kernel_rfl) ?_
            exact EW.cutK [3, 8, 9] ⟨b9, _, hC, rfl, by omega, by omega, by omega, by omega, by omega, rfl, hB8, hB9⟩
          · skip
            refine (OP.call (by decide) Tryd.func48 (by kernel_rfl) (by kernel_rfl) rfl (record_any _ _ hq) ?_)
            rintro ed w58 ⟨rfl, hc_w58⟩
            refine ⟨_, rfl, ?_⟩
            have hB6 := hc_w58.at hB6 (fun e => e)
            have hB8 := hc_w58.at hB8 (fun e => e)
            have hN := hc_w58.at hN (fun e => e)
            have hB9 := hc_w58.at hB9 (fun e => e)
            have hC := hC.trans hc_w58
            have hz_w58 := hc_w58.size
            refine ⟨⟨hB6.trans hB6_d.symm, hB8.trans hB8_d.symm⟩, ?_⟩
            refine AH.take 22 rfl (by kernel_rfl) (by kernel_rfl) (by kernel_rfl) (fun _ _ _ _ h => h) (⟨hB6.trans hB6_d.symm, hB8.trans hB8_d.symm⟩) (by decide) (fun w hS => R.field1 Tryd.underlying57 rfl Tryd.underlying3 rfl rfl (recS q).at1) ?_
            refine AH.take 23 rfl (by kernel_rfl) (by kernel_rfl) (by kernel_rfl) (fun _ _ _ _ h => h) (⟨hB6.trans hB6_d.symm, hB8.trans hB8_d.symm⟩) (by decide) (fun w hS => R.build (parts := [(0, _), (1, _)]) (vals := [(0, _), (1, _)]) rfl (fun w => build25_2 _ _ w)) ?_
            refine AH.eff 16 (by kernel_rfl) rfl rfl (OP.val (by decide) (R.load Tryd.underlying3 rfl rfl (by rw [Nat.zero_add, Nat.mul_one]; exact cell_at hN (by rw [List.getElem?_toArray, List.getElem?_map, codeN_at f]; rfl))) ?_)
            refine ⟨⟨hB6.trans hB6_d.symm, hB8.trans hB8_d.symm⟩, ?_⟩
            refine AH.take 24 rfl (by kernel_rfl) (by kernel_rfl) (by kernel_rfl) (fun _ _ _ _ h => h) (⟨hB6.trans hB6_d.symm, hB8.trans hB8_d.symm⟩) (by decide) (fun w hS => R.build (parts := [(0, _), (1, _), (2, _), (3, _), (4, _), (5, _)]) (vals := [(0, _), (1, _), (2, _), (3, _), (4, _), (5, _)]) rfl (fun w => build33_6 _ _ _ _ _ _ _ w)) ?_
            refine AH.eff 26 (by kernel_rfl) rfl rfl (OP.storeM rfl rfl hB9 ?_)
            intro w59 hc_w59 hs_w59 hB9
            have hB6 := hc_w59.at hB6 (fun e => by omega)
            have hB8 := hc_w59.at hB8 (fun e => by omega)
            have hN := hc_w59.at hN (fun e => by omega)
            have hC := hC.thenB hc_w59 (by omega)
            refine ⟨⟨hB6.trans hB6_d.symm, hB8.trans hB8_d.symm⟩, ?_⟩
            refine AH.done (by kernel_rfl) ?_
            exact EW.cutK [3, 8, 9] ⟨b9, _, hC, rfl, by omega, by omega, by omega, by omega, by omega, rfl, hB8, hB9⟩
      · skip
        refine (OP.call (by decide) Tryd.func48 (by kernel_rfl) (by kernel_rfl) rfl (record_any _ _ hq) ?_)
        rintro ed w60 ⟨rfl, hc_w60⟩
        refine ⟨_, rfl, ?_⟩
        have hB6 := hc_w60.at hB6 (fun e => e)
        have hB8 := hc_w60.at hB8 (fun e => e)
        have hC := hC.trans hc_w60
        have hz_w60 := hc_w60.size
        refine ⟨⟨hB6.trans hB6_d.symm, hB8.trans hB8_d.symm⟩, ?_⟩
        refine AH.take 22 rfl (by kernel_rfl) (by kernel_rfl) (by kernel_rfl) (fun _ _ _ _ h => h) (⟨hB6.trans hB6_d.symm, hB8.trans hB8_d.symm⟩) (by decide) (fun w hS => R.field1 Tryd.underlying57 rfl Tryd.underlying3 rfl rfl (recS q).at1) ?_
        refine AH.take 23 rfl (by kernel_rfl) (by kernel_rfl) (by kernel_rfl) (fun _ _ _ _ h => h) (⟨hB6.trans hB6_d.symm, hB8.trans hB8_d.symm⟩) (by decide) (fun w hS => R.build (parts := [(0, _), (1, _)]) (vals := [(0, _), (1, _)]) rfl (fun w => build25_2 _ _ w)) ?_
        refine AH.either 11 25 (by kernel_rfl) rfl rfl rfl rfl ?_ ?_
        · skip
          refine (OP.buildSlice (parts := [(0, _), (1, _), (2, _), (3, _)]) (vals := [(0, _), (1, _), (2, _), (3, _)]) (cells := (codesA.map (Value.int .i64)).toArray) (ty := 3) (by decide) rfl slice_codes ?_)
          intro w61 hc_w61 hs_w61 hN
          obtain ⟨bN, he_bN⟩ : ∃ b, b = w60.heap.size := ⟨_, rfl⟩
          rw [← he_bN] at hN ⊢
          have hB6 := hc_w61.at hB6 (fun e => e)
          have hB8 := hc_w61.at hB8 (fun e => e)
          have hC := hC.trans hc_w61
          have hz_w61 := hc_w61.size
          refine ⟨⟨hB6.trans hB6_d.symm, hB8.trans hB8_d.symm⟩, ?_⟩
          refine AH.take 15 rfl (by kernel_rfl) (by kernel_rfl) (by kernel_rfl) (fun _ _ _ _ h => h) (⟨hB6.trans hB6_d.symm, hB8.trans hB8_d.symm⟩) (by decide) (fun w hS => R.indexAddr1 (i := (f / 2 ^ (3 : Int).toNat % 4).toNat) Tryd.underlying65 sz3 rfl rfl (by omega) (by omega)) ?_
          refine AH.either 16 25 (by kernel_rfl) rfl rfl rfl rfl ?_ ?_
          · skip
            refine (OP.val (by decide) (R.load Tryd.underlying3 rfl rfl (by rw [Nat.zero_add, Nat.mul_one]; exact cell_at hN (by rw [List.getElem?_toArray, List.getElem?_map, codeN_at f]; rfl))) ?_)
            refine ⟨⟨hB6.trans hB6_d.symm, hB8.trans hB8_d.symm⟩, ?_⟩
            refine AH.take 24 rfl (by kernel_rfl) (by kernel_rfl) (by kernel_rfl) (fun _ _ _ _ h => h) (⟨hB6.trans hB6_d.symm, hB8.trans hB8_d.symm⟩) (by decide) (fun w hS => R.build (parts := [(0, _), (1, _), (2, _), (3, _), (4, _), (5, _)]) (vals := [(0, _), (1, _), (2, _), (3, _), (4, _), (5, _)]) rfl (fun w => build33_6 _ _ _ _ _ _ _ w)) ?_
            refine AH.eff 25 (by kernel_rfl) rfl rfl (OP.allocM (by decide) ?_)
            intro w62 hc_w62 hs_w62 hB9
            obtain ⟨b9, he_b9⟩ : ∃ b, b = w61.heap.size := ⟨_, rfl⟩
            rw [← he_b9] at hB9 ⊢
            have hB6 := hc_w62.at hB6 (fun e => e)
            have hB8 := hc_w62.at hB8 (fun e => e)
            have hN := hc_w62.at hN (fun e => e)
            have hC := hC.trans hc_w62
            have hz_w62 := hc_w62.size
            refine ⟨⟨hB6.trans hB6_d.symm, hB8.trans hB8_d.symm⟩, ?_⟩
            refine AH.eff 26 (by kernel_rfl) rfl rfl (OP.storeM rfl rfl hB9 ?_)
            intro w63 hc_w63 hs_w63 hB9
            have hB6 := hc_w63.at hB6 (fun e => by omega)
            have hB8 := hc_w63.at hB8 (fun e => by omega)
            have hN := hc_w63.at hN (fun e => by omega)
            have hC := hC.thenB hc_w63 (by omega)
            refine ⟨⟨hB6.trans hB6_d.symm, hB8.trans hB8_d.symm⟩, ?_⟩
            refine AH.done (by kernel_rfl) ?_
            exact EW.cutK [3, 8, 9] ⟨b9, _, hC, rfl, by omega, by omega, by omega, by omega, by omega, rfl, hB8, hB9⟩
          · skip
            refine (OP.allocM (by decide) ?_)
            intro w64 hc_w64 hs_w64 hB9
            obtain ⟨b9, he_b9⟩ : ∃ b, b = w61.heap.size := ⟨_, rfl⟩
            rw [← he_b9] at hB9 ⊢
            have hB6 := hc_w64.at hB6 (fun e => e)
            have hB8 := hc_w64.at hB8 (fun e => e)
            have hN := hc_w64.at hN (fun e => e)
            have hC := hC.trans hc_w64
            have hz_w64 := hc_w64.size
            refine ⟨⟨hB6.trans hB6_d.symm, hB8.trans hB8_d.symm⟩, ?_⟩
            refine AH.eff 16 (by kernel_rfl) rfl rfl (OP.val (by decide) (R.load Tryd.underlying3 rfl rfl (by rw [Nat.zero_add, Nat.mul_one]; exact cell_at hN (by rw [List.getElem?_toArray, List.getElem?_map, codeN_at f]; rfl))) ?_)
            refine ⟨⟨hB6.trans hB6_d.symm, hB8.trans hB8_d.symm⟩, ?_⟩
            refine AH.take 24 rfl (by kernel_rfl) (by kernel_rfl) (by kernel_rfl) (fun _ _ _ _ h => h) (⟨hB6.trans hB6_d.symm, hB8.trans hB8_d.symm⟩) (by decide) (fun w hS => R.build (parts := [(0, _), (1, _), (2, _), (3, _), (4, _), (5, _)]) (vals := [(0, _), (1, _), (2, _), (3, _), (4, _), (5, _)]) rfl (fun w => build33_6 _ _ _ _ _ _ _ w)) ?_
            refine AH.eff 26 (by kernel_rfl) rfl rfl (OP.storeM rfl rfl hB9 ?_)
            intro w65 hc_w65 hs_w65 hB9
            have hB6 := hc_w65.at hB6 (fun e => by omega)
            have hB8 := hc_w65.at hB8 (fun e => by omega)
            have hN := hc_w65.at hN (fun e => by omega)
            have hC := hC.thenB hc_w65 (by omega)
            refine ⟨⟨hB6.trans hB6_d.symm, hB8.trans hB8_d.symm⟩, ?_⟩
            refine AH.done (by kernel_rfl) ?_
            exact EW.cutK [3, 8, 9] ⟨b9, _, hC, rfl, by omega, by omega, by omega, by omega, by omega, rfl, hB8, hB9⟩
        · skip
          refine (OP.allocM (by decide) ?_)
          intro w66 hc_w66 hs_w66 hB9
          obtain ⟨b9, he_b9⟩ : ∃ b, b = w60.heap.size := ⟨_, rfl⟩
          rw [← he_b9] at hB9 ⊢
          have hB6 := hc_w66.at hB6 (fun e => e)
          have hB8 := hc_w66.at hB8 (fun e => e)
          have hC := hC.trans hc_w66
          have hz_w66 := hc_w66.size
          refine ⟨⟨hB6.trans hB6_d.symm, hB8.trans hB8_d.symm⟩, ?_⟩
          refine AH.eff 11 (by kernel_rfl) rfl rfl (OP.buildSlice (parts := [(0, _), (1, _), (2, _), (3, _)]) (vals := [(0, _), (1, _), (2, _), (3, _)]) (cells := (codesA.map (Value.int .i64)).toArray) (ty := 3) (by decide) rfl slice_codes ?_)
          intro w67 hc_w67 hs_w67 hN
          obtain ⟨bN, he_bN⟩ : ∃ b, b = w66.heap.size := ⟨_, rfl⟩
          rw [← he_bN] at hN ⊢
          have hB6 := hc_w67.at hB6 (fun e => e)
          have hB8 := hc_w67.at hB8 (fun e => e)
          have hB9 := hc_w67.at hB9 (fun e => e)
          have hC := hC.trans hc_w67
          have hz_w67 := hc_w67.size
          refine ⟨⟨hB6.trans hB6_d.symm, hB8.trans hB8_d.symm⟩, ?_⟩
          refine AH.take 15 rfl (by kernel_rfl) (by kernel_rfl) (by kernel_rfl) (fun _ _ _ _ h => h) (⟨hB6.trans hB6_d.symm, hB8.trans hB8_d.symm⟩) (by decide) (fun w hS => R.indexAddr1 (i := (f / 2 ^ (3 : Int).toNat % 4).toNat) Tryd.underlying65 sz3 rfl rfl (by omega) (by omega)) ?_
          refine AH.eff 16 (by kernel_rfl) rfl rfl (OP.val (by decide) (R.load Tryd.underlying3 rfl rfl (by rw [Nat.zero_add, Nat.mul_one]; exact cell_at hN (by rw [List.getElem?_toArray, List.getElem?_map, codeN_at f]; rfl))) ?_)
          refine ⟨⟨hB6.trans hB6_d.symm, hB8.trans hB8_d.symm⟩, ?_⟩
          refine AH.take 24 rfl (by kernel_rfl) (by kernel_rfl) (by kernel_rfl) (fun _ _ _ _ h => h) (⟨hB6.trans hB6_d.symm, hB8.trans hB8_d.symm⟩) (by decide) (fun w hS => R.build (parts := [(0, _), (1, _), (2, _), (3, _), (4, _), (5, _)]) (vals := [(0, _), (1, _), (2, _), (3, _), (4, _), (5, _)]) rfl (fun w => build33_6 _ _ _ _ _ _ _ w)) ?_
          refine AH.eff 26 (by kernel_rfl) rfl rfl (OP.storeM rfl rfl hB9 ?_)
          intro w68 hc_w68 hs_w68 hB9
          have hB6 := hc_w68.at hB6 (fun e => by omega)
          have hB8 := hc_w68.at hB8 (fun e => by omega)
          have hN := hc_w68.at hN (fun e => by omega)
          have hC := hC.thenB hc_w68 (by omega)
          refine ⟨⟨hB6.trans hB6_d.symm, hB8.trans hB8_d.symm⟩, ?_⟩
          refine AH.done (by kernel_rfl) ?_
          exact EW.cutK [3, 8, 9] ⟨b9, _, hC, rfl, by omega, by omega, by omega, by omega, by omega, rfl, hB8, hB9⟩
      · skip
        refine (OP.allocM (by decide) ?_)
        intro w69 hc_w69 hs_w69 hB9
        obtain ⟨b9, he_b9⟩ : ∃ b, b = w42.heap.size := ⟨_, rfl⟩
        rw [← he_b9] at hB9 ⊢
        have hB6 := hc_w69.at hB6 (fun e => e)
        have hB8 := hc_w69.at hB8 (fun e => e)
        have hC := hC.trans hc_w69
        have hz_w69 := hc_w69.size
        refine ⟨⟨hB6.trans hB6_d.symm, hB8.trans hB8_d.symm⟩, ?_⟩
        refine AH.either 11 21 (by kernel_rfl) rfl rfl rfl rfl ?_ ?_
        · skip
          refine (OP.buildSlice (parts := [(0, _), (1, _), (2, _), (3, _)]) (vals := [(0, _), (1, _), (2, _), (3, _)]) (cells := (codesA.map (Value.int .i64)).toArray) (ty := 3) (by decide) rfl slice_codes ?_)
          intro w70 hc_w70 hs_w70 hN
          obtain ⟨bN, he_bN⟩ : ∃ b, b = w69.heap.size := ⟨_, rfl⟩
          rw [← he_bN] at hN ⊢
          have hB6 := hc_w70.at hB6 (fun e => e)
          have hB8 := hc_w70.at hB8 (fun e => e)
          have hB9 := hc_w70.at hB9 (fun e => e)
          have hC := hC.trans hc_w70
          have hz_w70 := hc_w70.size
          refine ⟨⟨hB6.trans hB6_d.symm, hB8.trans hB8_d.symm⟩, ?_⟩
          refine AH.take 15 rfl (by kernel_rfl) (by kernel_rfl) (by kernel_rfl) (fun _ _ _ _ h => h) (⟨hB6.trans hB6_d.symm, hB8.trans hB8_d.symm⟩) (by decide) (fun w hS => R.indexAddr1 (i := (f / 2 ^ (3 : Int).toNat % 4).toNat) Tryd.underlying65 sz3 rfl rfl (by omega) (by omega)) ?_
          refine AH.either 16 21 (by kernel_rfl) rfl rfl rfl rfl ?_ ?_
          · skip
            refine (OP.val (by decide) (R.load Tryd.underlying3 rfl rfl (by rw [Nat.zero_add, Nat.mul_one]; exact cell_at hN (by rw [List.getElem?_toArray, List.getElem?_map, codeN_at f]; rfl))) ?_)
            refine ⟨⟨hB6.trans hB6_d.symm, hB8.trans hB8_d.symm⟩, ?_⟩
            refine AH.eff 21 (by kernel_rfl) rfl rfl (OP.call (by decide) Tryd.func48 (by kernel_rfl) (by kernel_rfl) rfl (record_any _ _ hq) ?_)
            rintro ed w71 ⟨rfl, hc_w71⟩
            refine ⟨_, rfl, ?_⟩
            have hB6 := hc_w71.at hB6 (fun e => e)
            have hB8 := hc_w71.at hB8 (fun e => e)
            have hB9 := hc_w71.at hB9 (fun e => e)
            have hN := hc_w71.at hN (fun e => e)
            have hC := hC.trans hc_w71
            have hz_w71 := hc_w71.size
            refine ⟨⟨hB6.trans hB6_d.symm, hB8.trans hB8_d.symm⟩, ?_⟩
            refine AH.take 22 rfl (by kernel_rfl) (by kernel_rfl) (by kernel_rfl) (fun _ _ _ _ h => h) (⟨hB6.trans hB6_d.symm, hB8.trans hB8_d.symm⟩) (by decide) (fun w hS => R.field1 Tryd.underlying57 rfl Tryd.underlying3 rfl rfl (recS q).at1) ?_
            refine AH.take 23 rfl (by kernel_rfl) (by kernel_rfl) (by kernel_rfl) (fun _ _ _ _ h => h) (⟨hB6.trans hB6_d.symm, hB8.trans hB8_d.symm⟩) (by decide) (fun w hS => R.build (parts := [(0, _), (1, _)]) (vals := [(0, _), (1, _)]) rfl (fun w => build25_2 _ _ w)) ?_
            refine AH.take 24 rfl (by kernel_rfl) (by kernel_rfl) (by kernel_rfl) (fun _ _ _ _ h => h) (⟨hB6.trans hB6_d.symm, hB8.trans hB8_d.symm⟩) (by decide) (fun w hS => R.build (parts := [(0, _), (1, _), (2, _), (3, _), (4, _), (5, _)]) (vals := [(0, _), (1, _), (2, _), (3, _), (4, _), (5, _)]) rfl (fun w => build33_6 _ _ _ _ _ _ _ w)) ?_
            refine AH.eff 26 (by kernel_rfl) rfl rfl (OP.storeM rfl rfl hB9 ?_)
            intro w72 hc_w72 hs_w72 hB9
            have hB6 := hc_w72.at hB6 (fun e => by omega)
            have hB8 := hc_w72.at hB8 (fun e => by omega)
            have hN := hc_w72.at hN (fun e => by omega)
            have hC := hC.thenB hc_w72 (by omega)
            refine ⟨⟨hB6.trans hB6_d.symm, hB8.trans hB8_d.symm⟩, ?_⟩
            refine AH.done (by kernel_rfl) ?_
            exact EW.cutK [3, 8, 9] ⟨b9, _, hC, rfl, by omega, by omega, by omega, by omega, by omega, rfl, hB8, hB9⟩
          · skip
            refine (OP.call (by decide) Tryd.func48 (by kernel_rfl) (by kernel_rfl) rfl (record_any _ _ hq) ?_)
            rintro ed w73 ⟨rfl, hc_w73⟩
            refine ⟨_, rfl, ?_⟩
            have hB6 := hc_w73.at hB6 (fun e => e)
            have hB8 := hc_w73.at hB8 (fun e => e)
            have hB9 := hc_w73.at hB9 (fun e => e)
            have hN := hc_w73.at hN (fun e => e)
            have hC := hC.trans hc_w73
            have hz_w73 := hc_w73.size
            refine ⟨⟨hB6.trans hB6_d.symm, hB8.trans hB8_d.symm⟩, ?_⟩
            refine AH.take 22 rfl (by kernel_rfl) (by kernel_rfl) (by kernel_rfl) (fun _ _ _ _ h => h) (⟨hB6.trans hB6_d.symm, hB8.trans hB8_d.symm⟩) (by decide) (fun w hS => R.field1 Tryd.underlying57 rfl Tryd.underlying3 rfl rfl (recS q).at1) ?_
            refine AH.take 23 rfl (by kernel_rfl) (by kernel_rfl) (by kernel_rfl) (fun _ _ _ _ h => h) (⟨hB6.trans hB6_d.symm, hB8.trans hB8_d.symm⟩) (by decide) (fun w hS => R.build (parts := [(0, _), (1, _)]) (vals := [(0, _), (1, _)]) rfl (fun w => build25_2 _ _ w)) ?_
            refine AH.eff 16 (by kernel_rfl) rfl rfl (OP.val (by decide) (R.load Tryd.underlying3 rfl rfl (by rw [Nat.zero_add, Nat.mul_one]; exact cell_at hN (by rw [List.getElem?_toArray, List.getElem?_map, codeN_at f]; rfl))) ?_)
            refine ⟨⟨hB6.trans hB6_d.symm, hB8.trans hB8_d.symm⟩, ?_⟩
            refine AH.take 24 rfl (by kernel_rfl) (by kernel_rfl) (by kernel_rfl) (fun _ _ _ _ h => h) (⟨hB6.trans hB6_d.symm, hB8.trans hB8_d.symm⟩) (by decide) (fun w hS => R.build (parts := [(0, _), (1, _), (2, _), (3, _), (4, _), (5, _)]) (vals := [(0, _), (1, _), (2, _), (3, _), (4, _), (5, _)]) rfl (fun w => build33_6 _ _ _ _ _ _ _ w)) ?_
            refine AH.eff 26 (by kernel_rfl) rfl rfl (OP.storeM rfl rfl hB9 ?_)
            intro w74 hc_w74 hs_w74 hB9
            have hB6 := hc_w74.at hB6 (fun e => by omega)
            have hB8 := hc_w74.at hB8 (fun e => by omega)
            have hN := hc_w74.at hN (fun e => by omega)
            have hC := hC.thenB hc_w74 (by omega)
            refine ⟨⟨hB6.trans hB6_d.symm, hB8.trans hB8_d.symm⟩, ?_⟩
            refine AH.done (by kernel_rfl) ?_
            exact EW.cutK [3, 8, 9] ⟨b9, _, hC, rfl, by omega, by omega, by omega, by omega, by omega, rfl, hB8, hB9⟩
        · skip
          refine (OP.call (by decide) Tryd.func48 (by kernel_rfl) (by kernel_rfl) rfl (record_any _ _ hq) ?_)
          rintro ed w75 ⟨rfl, hc_w75⟩
          refine ⟨_, rfl, ?_⟩
          have hB6 := hc_w75.at hB6 (fun e => e)
          have hB8 := hc_w75.at hB8 (fun e => e)
          have hB9 := hc_w75.at hB9 (fun e => e)
          have hC := hC.trans hc_w75
          have hz_w75 := hc_w75.size
          refine ⟨⟨hB6.trans hB6_d.symm, hB8.trans hB8_d.symm⟩, ?_⟩
          refine AH.take 22 rfl (by kernel_rfl) (by kernel_rfl) (by kernel_rfl) (fun _ _ _ _ h => h) (⟨hB6.trans hB6_d.symm, hB8.trans hB8_d.symm⟩) (by decide) (fun w hS => R.field1 Tryd.underlying57 rfl Tryd.underlying3 rfl rfl (recS q).at1) ?_
          refine AH.take 23 rfl (by kernel_rfl) (by kernel_rfl) (by kernel_rfl) (fun _ _ _ _ h => h) (⟨hB6.trans hB6_d.symm, hB8.trans hB8_d.symm⟩) (by decide) (fun w hS => R.build (parts := [(0, _), (1, _)]) (vals := [(0, _), (1, _)]) rfl (fun w => build25_2 _ _ w)) ?_
          refine AH.eff 11 (by kernel_rfl) rfl rfl (OP.buildSlice (parts := [(0, _), (1, _), (2, _), (3, _)]) (vals := [(0, _), (1, _), (2, _), (3, _)]) (cells := (codesA.map (Value.int .i64)).toArray) (ty := 3) (by decide) rfl slice_codes ?_)
          intro w76 hc_w76 hs_w76 hN
          obtain ⟨bN, he_bN⟩ : ∃ b, b = w75.heap.size := ⟨_, rfl⟩
          rw [← he_bN] at hN ⊢
          have hB6 := hc_w76.at hB6 (fun e => e)
          have hB8 := hc_w76.at hB8 (fun e => e)
          have hB9 := hc_w76.at hB9 (fun e => e)
          have hC := hC.trans hc_w76
          have hz_w76 := hc_w76.size
          refine ⟨⟨hB6.trans hB6_d.symm, hB8.trans hB8_d.symm⟩, ?_⟩
          refine AH.take 15 rfl (by kernel_rfl) (by kernel_rfl) (by kernel_rfl) (fun _ _ _ _ h => h) (⟨hB6.trans hB6_d.symm, hB8.trans hB8_d.symm⟩) (by decide) (fun w hS => R.indexAddr1 (i := (f / 2 ^ (3 : Int).toNat % 4).toNat) Tryd.underlying65 sz3 rfl rfl (by omega) (by omega)) ?_
          refine AH.eff 16 (by kernel_rfl) rfl rfl (OP.val (by decide) (R.load Tryd.underlying3 rfl rfl (by rw [Nat.zero_add, Nat.mul_one]; exact cell_at hN (by rw [List.getElem?_toArray, List.getElem?_map, codeN_at f]; rfl))) ?_)
          refine ⟨⟨hB6.trans hB6_d.symm, hB8.trans hB8_d.symm⟩, ?_⟩
          refine AH.take 24 rfl (by kernel_rfl) (by kernel_rfl) (by kernel_rfl) (fun _ _ _ _ h => h) (⟨hB6.trans hB6_d.symm, hB8.trans hB8_d.symm⟩) (by decide) (fun w hS => R.build (parts := [(0, _), (1, _), (2, _), (3, _), (4, _), (5, _)]) (vals := [(0, _), (1, _), (2, _), (3, _), (4, _), (5, _)]) rfl (fun w => build33_6 _ _ _ _ _ _ _ w)) ?_
          refine AH.eff 26 (by kernel_rfl) rfl rfl (OP.storeM rfl rfl hB9 ?_)
          intro w77 hc_w77 hs_w77 hB9
          have hB6 := hc_w77.at hB6 (fun e => by omega)
          have hB8 := hc_w77.at hB8 (fun e => by omega)
          have hN := hc_w77.at hN (fun e => by omega)
          have hC := hC.thenB hc_w77 (by omega)
          refine ⟨⟨hB6.trans hB6_d.symm, hB8.trans hB8_d.symm⟩, ?_⟩
          refine AH.done (by kernel_rfl) ?_
          exact EW.cutK [3, 8, 9] ⟨b9, _, hC, rfl, by omega, by omega, by omega, by omega, by omega, rfl, hB8, hB9⟩
    · skip
      refine (OP.allocM (by decide) ?_)
      intro w78 hc_w78 hs_w78 hB9
      obtain ⟨b9, he_b9⟩ : ∃ b, b = w3.heap.size := ⟨_, rfl⟩
      rw [← he_b9] at hB9 ⊢
      have hB6 := hc_w78.at hB6 (fun e => e)
      have hB8 := hc_w78.at hB8 (fun e => e)
      have hC := hC.trans hc_w78
      have hz_w78 := hc_w78.size
      refine ⟨⟨hB6.trans hB6_d.symm, hB8.trans hB8_d.symm⟩, ?_⟩
      refine AH.either 11 19 (by kernel_rfl) rfl rfl rfl rfl ?_ ?_
      · skip
        refine (OP.buildSlice (parts := [(0, _), (1, _), (2, _), (3, _)]) (vals := [(0, _), (1, _), (2, _), (3, _)]) (cells := (codesA.map (Value.int .i64)).toArray) (ty := 3) (by decide) rfl slice_codes ?_)
        intro w79 hc_w79 hs_w79 hN
        obtain ⟨bN, he_bN⟩ : ∃ b, b = w78.heap.size := ⟨_, rfl⟩
        rw [← he_bN] at hN ⊢
        have hB6 := hc_w79.at hB6 (fun e => e)
        have hB8 := hc_w79.at hB8 (fun e => e)
        have hB9 := hc_w79.at hB9 (fun e => e)
        have hC := hC.trans hc_w79
        have hz_w79 := hc_w79.size
        refine ⟨⟨hB6.trans hB6_d.symm, hB8.trans hB8_d.symm⟩, ?_⟩
        refine AH.take 15 rfl (by kernel_rfl) (by kernel_rfl) (by kernel_rfl) (fun _ _ _ _ h => h) (⟨hB6.trans hB6_d.symm, hB8.trans hB8_d.symm⟩) (by decide) (fun w hS => R.indexAddr1 (i := (f / 2 ^ (3 : Int).toNat % 4).toNat) Tryd.underlying65 sz3 rfl rfl (by omega) (by omega)) ?_
        refine AH.either 16 19 (by kernel_rfl) rfl rfl rfl rfl ?_ ?_
        · skip
          refine (OP.val (by decide) (R.load Tryd.underlying3 rfl rfl (by rw [Nat.zero_add, Nat.mul_one]; exact cell_at hN (by rw [List.getElem?_toArray, List.getElem?_map, codeN_at f]; rfl))) ?_)
          refine ⟨⟨hB6.trans hB6_d.symm, hB8.trans hB8_d.symm⟩, ?_⟩
          refine AH.eff 19 (by kernel_rfl) rfl rfl (OP.call (by decide) Tryd.func33 (by kernel_rfl) (by kernel_rfl) rfl (name_any _ _) ?_)
          rintro ed w80 ⟨rfl, hc_w80⟩
          refine ⟨_, rfl, ?_⟩
          have hB6 := hc_w80.at hB6 (fun e => e)
          have hB8 := hc_w80.at hB8 (fun e => e)
          have hB9 := hc_w80.at hB9 (fun e => e)
          have hN := hc_w80.at hN (fun e => e)
          have hC := hC.trans hc_w80
          have hz_w80 := hc_w80.size
          refine ⟨⟨hB6.trans hB6_d.symm, hB8.trans hB8_d.symm⟩, ?_⟩
          refine AH.eff 21 (by kernel_rfl) rfl rfl (OP.call (by decide) Tryd.func48 (by kernel_rfl) (by kernel_rfl) rfl (record_any _ _ hq) ?_)
          rintro ed w81 ⟨rfl, hc_w81⟩
          refine ⟨_, rfl, ?_⟩
          have hB6 := hc_w81.at hB6 (fun e => e)
          have hB8 := hc_w81.at hB8 (fun e => e)
          have hB9 := hc_w81.at hB9 (fun e => e)
          have hN := hc_w81.at hN (fun e => e)
          have hC := hC.trans hc_w81
          have hz_w81 := hc_w81.size
          refine ⟨⟨hB6.trans hB6_d.symm, hB8.trans hB8_d.symm⟩, ?_⟩
          refine AH.take 22 rfl (by kernel_rfl) (by kernel_rfl) (by kernel_rfl) (fun _ _ _ _ h => h) (⟨hB6.trans hB6_d.symm, hB8.trans hB8_d.symm⟩) (by decide) (fun w hS => R.field1 Tryd.underlying57 rfl Tryd.underlying3 rfl rfl (recS q).at1) ?_
          refine AH.take 23 rfl (by kernel_rfl) (by kernel_rfl) (by kernel_rfl) (fun _ _ _ _ h => h) (⟨hB6.trans hB6_d.symm, hB8.trans hB8_d.symm⟩) (by decide) (fun w hS => R.build (parts := [(0, _), (1, _)]) (vals := [(0, _), (1, _)]) rfl (fun w => build25_2 _ _ w)) ?_
          refine AH.take 24 rfl (by kernel_rfl) (by kernel_rfl) (by kernel_rfl) (fun _ _ _ _ h => h) (⟨hB6.trans hB6_d.symm, hB8.trans hB8_d.symm⟩) (by decide) (fun w hS => R.build (parts := [(0, _), (1, _), (2, _), (3, _), (4, _), (5, _)]) (vals := [(0, _), (1, _), (2, _), (3, _), (4, _), (5, _)]) rfl (fun w => build33_6 _ _ _ _ _ _ _ w)) ?_
          refine AH.eff 26 (by kernel_rfl) rfl rfl (OP.storeM rfl rfl hB9 ?_)
          intro w82 hc_w82 hs_w82 hB9
          have hB6 := hc_w82.at hB6 (fun e => by omega)
          have hB8 := hc_w82.at hB8 (fun e => by omega)
          have hN := hc_w82.at hN (fun e => by omega)
          have hC := hC.thenB hc_w82 (by omega)
          refine ⟨⟨hB6.trans hB6_d.symm, hB8.trans hB8_d.symm⟩, ?_⟩
          refine AH.done (by kernel_rfl) ?_
          exact EW.cutK [3, 8, 9] ⟨b9, _, hC, rfl, by omega, by omega, by omega, by omega, by omega, rfl, hB8, hB9⟩
        · skip
          refine (OP.call (by decide) Tryd.func33 (by kernel_rfl) (by kernel_rfl) rfl (name_any _ _) ?_)
          rintro ed w83 ⟨rfl, hc_w83⟩
          refine ⟨_, rfl, ?_⟩
          have hB6 := hc_w83.at hB6 (fun e => e)
          have hB8 := hc_w83.at hB8 (fun e => e)
          have hB9 := hc_w83.at hB9 (fun e => e)
          have hN := hc_w83.at hN (fun e => e)
          have hC := hC.trans hc_w83
          have hz_w83 := hc_w83.size
          refine ⟨⟨hB6.trans hB6_d.symm, hB8.trans hB8_d.symm⟩, ?_⟩
          refine AH.either 16 21 (by kernel_rfl) rfl rfl rfl rfl ?_ ?_
          · skip
            refine (OP.val (by decide) (R.load Tryd.underlying3 rfl rfl (by rw [Nat.zero_add, Nat.mul_one]; exact cell_at hN (by rw [List.getElem?_toArray, List.getElem?_map, codeN_at f]; rfl))) ?_)
            refine ⟨⟨hB6.trans hB6_d.symm, hB8.trans hB8_d.symm⟩, ?_⟩
            refine AH.eff 21 (by kernel_rfl) rfl rfl (OP.call (by decide) Tryd.func48 (by kernel_rfl) (by kernel_rfl) rfl (record_any _ _ hq) ?_)
            rintro ed w84 ⟨rfl, hc_w84⟩
            refine ⟨_, rfl, ?_⟩
            have hB6 := hc_w84.at hB6 (fun e => e)
            have hB8 := hc_w84.at hB8 (fun e => e)
            have hB9 := hc_w84.at hB9 (fun e => e)
            have hN := hc_w84.at hN (fun e => e)
            have hC := hC.trans hc_w84
            have hz_w84 := hc_w84.size
            refine ⟨⟨hB6.trans hB6_d.symm, hB8.trans hB8_d.symm⟩, ?_⟩
            refine AH.take 22 rfl (by kernel_rfl) (by kernel_rfl) (by kernel_rfl) (fun _ _ _ _ h => h) (⟨hB6.trans hB6_d.symm, hB8.trans hB8_d.symm⟩) (by decide) (fun w hS => R.field1 Tryd.underlying57 rfl Tryd.underlying3 rfl rfl (recS q).at1) ?_
            refine AH.take 23 rfl (by kernel_rfl) (by kernel_rfl) (by kernel_rfl) (fun _ _ _ _ h => h) (⟨hB6.trans hB6_d.symm, hB8.trans hB8_d.symm⟩) (by decide) (fun w hS => R.build (parts := [(0, _), (1, _)]) (vals := [(0, _), (1, _)]) rfl (fun w => build25_2 _ _ w)) ?_
            refine AH.take 24 rfl (by kernel_rfl) (by kernel_rfl) (by kernel_rfl) (fun _ _ _ _ h => h) (⟨hB6.trans hB6_d.symm, hB8.trans hB8_d.symm⟩) (by decide) (fun w hS => R.build (parts := [(0, _), (1, _), (2, _), (3, _), (4, _), (5, _)]) (vals := [(0, _), (1, _), (2, _), (3, _), (4, _), (5, _)]) rfl (fun w => build33_6 _ _ _ _ _ _ _ w)) ?_
            refine AH.eff 26 (by kernel_rfl) rfl rfl (OP.storeM rfl rfl hB9 ?_)
            intro w85 hc_w85 hs_w85 hB9
            have hB6 := hc_w85.at hB6 (fun e => by omega)
            have hB8 := hc_w85.at hB8 (fun e => by omega)
            have hN := hc_w85.at hN (fun e => by omega)
            have hC := hC.thenB hc_w85 (by omega)
            refine ⟨⟨hB6.trans hB6_d.symm, hB8.trans hB8_d.symm⟩, ?_⟩
            refine AH.done (by kernel_rfl) ?_
            exact EW.cutK [3, 8, 9] ⟨b9, _, hC, rfl, by omega, by omega, by omega, by omega, by omega, rfl, hB8, hB9⟩
          · skip
            refine (OP.call (by decide) Tryd.func48 (by kernel_rfl) (by kernel_rfl) rfl (record_any _ _ hq) ?_)
            rintro ed w86 ⟨rfl, hc_w86⟩
            refine ⟨_, rfl, ?_⟩
            have hB6 := hc_w86.at hB6 (fun e => e)
            have hB8 := hc_w86.at hB8 (fun e => e)
            have hB9 := hc_w86.at hB9 (fun e => e)
            have hN := hc_w86.at hN (fun e => e)
            have hC := hC.trans hc_w86
            have hz_w86 := hc_w86.size
            refine ⟨⟨hB6.trans hB6_d.symm, hB8.trans hB8_d.symm⟩, ?_⟩
            refine AH.take 22 rfl (by kernel_rfl) (by kernel_rfl) (by kernel_rfl) (fun _ _ _ _ h => h) (⟨hB6.trans hB6_d.symm, hB8.trans hB8_d.symm⟩) (by decide) (fun w hS => R.field1 Tryd.underlying57 rfl Tryd.underlying3 rfl rfl (recS q).at1) ?_
            refine AH.take 23 rfl (by kernel_rfl) (by kernel_rfl) (by kernel_rfl) (fun _ _ _ _ h => h) (⟨hB6.trans hB6_d.symm, hB8.trans hB8_d.symm⟩) (by decide) (fun w hS => R.build (parts := [(0, _), (1, _)]) (vals := [(0, _), (1, _)]) rfl (fun w => build25_2 _ _ w)) ?_
            refine AH.eff 16 (by kernel_rfl) rfl rfl (OP.val (by decide) (R.load Tryd.underlying3 rfl rfl (by rw [Nat.zero_add, Nat.mul_one]; exact cell_at hN (by rw [List.getElem?_toArray, List.getElem?_map, codeN_at f]; rfl))) ?_)
            refine ⟨⟨hB6.trans hB6_d.symm, hB8.trans hB8_d.symm⟩, ?_⟩
            refine AH.take 24 rfl (by kernel_rfl) (by kernel_rfl) (by kernel_rfl) (fun _ _ _ _ h => h) (⟨hB6.trans hB6_d.symm, hB8.trans hB8_d.symm⟩) (by decide) (fun w hS => R.build (parts := [(0, _), (1, _), (2, _), (3, _), (4, _), (5, _)]) (vals := [(0, _), (1, _), (2, _), (3, _), (4, _), (5, _)]) rfl (fun w => build33_6 _ _ _ _ _ _ _ w)) ?_
            refine AH.eff 26 (by kernel_rfl) rfl rfl (OP.storeM rfl rfl hB9 ?_)
            intro w87 hc_w87 hs_w87 hB9
            have hB6 := hc_w87.at hB6 (fun e => by omega)
            have hB8 := hc_w87.at hB8 (fun e => by omega)
            have hN := hc_w87.at hN (fun e => by omega)
            have hC := hC.thenB hc_w87 (by omega)
            refine ⟨⟨hB6.trans hB6_d.symm, hB8.trans hB8_d.symm⟩, ?_⟩
            refine AH.done (by kernel_rfl) ?_
            exact EW.cutK [3, 8, 9] ⟨b9, _, hC, rfl, by omega, by omega, by omega, by omega, by omega, rfl, hB8, hB9⟩
      · skip
        refine (OP.call (by decide) Tryd.func33 (by kernel_rfl) (by kernel_rfl) rfl (name_any _ _) ?_)
        rintro ed w88 ⟨rfl, hc_w88⟩
        refine ⟨_, rfl, ?_⟩
        have hB6 := hc_w88.at hB6 (fun e => e)
        have hB8 := hc_w88.at hB8 (fun e => e)
        have hB9 := hc_w88.at hB9 (fun e => e)
        have hC := hC.trans hc_w88
        have hz_w88 := hc_w88.size
        refine ⟨⟨hB6.trans hB6_d.symm, hB8.trans hB8_d.symm⟩, ?_⟩
        refine AH.either 11 21 (by kernel_rfl) rfl rfl rfl rfl ?_ ?_
        · skip
          refine (OP.buildSlice (parts := [(0, _), (1, _), (2, _), (3, _)]) (vals := [(0, _), (1, _), (2, _), (3, _)]) (cells := (codesA.map (Value.int .i64)).toArray) (ty := 3) (by decide) rfl slice_codes ?_)
          intro w89 hc_w89 hs_w89 hN
          obtain ⟨bN, he_bN⟩ : ∃ b, b = w88.heap.size := ⟨_, rfl⟩
          rw [← he_bN] at hN ⊢
          have hB6 := hc_w89.at hB6 (fun e => e)
          have hB8 := hc_w89.at hB8 (fun e => e)
          have hB9 := hc_w89.at hB9 (fun e => e)
          have hC := hC.trans hc_w89
          have hz_w89 := hc_w89.size
          refine ⟨⟨hB6.trans hB6_d.symm, hB8.trans hB8_d.symm⟩, ?_⟩
          refine AH.take 15 rfl (by kernel_rfl) (by kernel_rfl) (by kernel_rfl) (fun _ _ _ _ h => h) (⟨hB6.trans hB6_d.symm, hB8.trans hB8_d.symm⟩) (by decide) (fun w hS => R.indexAddr1 (i := (f / 2 ^ (3 : Int).toNat % 4).toNat) Tryd.underlying65 sz3 rfl rfl (by omega) (by omega)) ?_
          refine AH.either 16 21 (by kernel_rfl) rfl rfl rfl rfl ?_ ?_
          · skip
            refine (OP.val (by decide) (R.load Tryd.underlying3 rfl rfl (by rw [Nat.zero_add, Nat.mul_one]; exact cell_at hN (by rw [List.getElem?_toArray, List.getElem?_map, codeN_at f]; rfl))) ?_)
            refine ⟨⟨hB6.trans hB6_d.symm, hB8.trans hB8_d.symm⟩, ?_⟩
            refine AH.eff 21 (by kernel_rfl) rfl rfl (OP.call (by decide) Tryd.func48 (by kernel_rfl) (by kernel_rfl) rfl (record_any _ _ hq) ?_)
            rintro ed w90 ⟨rfl, hc_w90⟩
            refine ⟨_, rfl, ?_⟩
            have hB6 := hc_w90.at hB6 (fun e => e)
            have hB8 := hc_w90.at hB8 (fun e => e)
            have hB9 := hc_w90.at hB9 (fun e => e)
            have hN := hc_w90.at hN (fun e => e)
            have hC := hC.trans hc_w90
            have hz_w90 := hc_w90.size
            refine ⟨⟨hB6.trans hB6_d.symm, hB8.trans hB8_d.symm⟩, ?_⟩
            refine AH.take 22 rfl (by kernel_rfl) (by kernel_rfl) (by kernel_rfl) (fun _ _ _ _ h => h) (⟨hB6.trans hB6_d.symm, hB8.trans hB8_d.symm⟩) (by decide) (fun w hS => R.field1 Tryd.underlying57 rfl Tryd.underlying3 rfl rfl (recS q).at1) ?_
            refine AH.take 23 rfl (by kernel_rfl) (by kernel_rfl) (by kernel_rfl) (fun _ _ _ _ h => h) (⟨hB6.trans hB6_d.symm, hB8.trans hB8_d.symm⟩) (by decide) (fun w hS => R.build (parts := [(0, _), (1, _)]) (vals := [(0, _), (1, _)]) rfl (fun w => build25_2 _ _ w)) ?_
            refine AH.take 24 rfl (by kernel_rfl) (by kernel_rfl) (by kernel_rfl) (fun _ _ _ _ h => h) (⟨hB6.trans hB6_d.symm, hB8.trans hB8_d.symm⟩) (by decide) (fun w hS => R.build (parts := [(0, _), (1, _), (2, _), (3, _), (4, _), (5, _)]) (vals := [(0, _), (1, _), (2, _), (3, _), (4, _), (5, _)]) rfl (fun w => build33_6 _ _ _ _ _ _ _ w)) ?_
            refine AH.eff 26 (by kernel_rfl) rfl rfl (OP.storeM rfl rfl hB9 ?_)
            intro w91 hc_w91 hs_w91 hB9
            have hB6 := hc_w91.at hB6 (fun e => by omega)
            have hB8 := hc_w91.at hB8 (fun e => by omega)
            have hN := hc_w91.at hN (fun e => by omega)
            have hC := hC.thenB hc_w91 (by omega)
            refine ⟨⟨hB6.trans hB6_d.symm, hB8.trans hB8_d.symm⟩, ?_⟩
            refine AH.done (by kernel_rfl) ?_
            exact EW.cutK [3, 8, 9] ⟨b9, _, hC, rfl, by omega, by omega, by omega, by omega, by omega, rfl, hB8, hB9⟩
          · skip
            refine (OP.call (by decide) Tryd.func48 (by kernel_rfl) (by kernel_rfl) rfl (record_any _ _ hq) ?_)
            rintro ed w92 ⟨rfl, hc_w92⟩
            refine ⟨_, rfl, ?_⟩
            have hB6 := hc_w92.at hB6 (fun e => e)
            have hB8 := hc_w92.at hB8 (fun e => e)
            have hB9 := hc_w92.at hB9 (fun e => e)
            have hN := hc_w92.at hN (fun e => e)
            have hC := hC.trans hc_w92
            have hz_w92 := hc_w92.size
            refine ⟨⟨hB6.trans hB6_d.symm, hB8.trans hB8_d.symm⟩, ?_⟩
            refine AH.take 22 rfl (by kernel_rfl) (by kernel_rfl) (by kernel_rfl) (fun _ _ _ _ h => h) (⟨hB6.trans hB6_d.symm, hB8.trans hB8_d.symm⟩) (by decide) (fun w hS => R.field1 Tryd.underlying57 rfl Tryd.underlying3 rfl rfl (recS q).at1) ?_
            refine AH.take 23 rfl (by kernel_rfl) (by kernel_rfl) (by kernel_rfl) (fun _ _ _ _ h => h) (⟨hB6.trans hB6_d.symm, hB8.trans hB8_d.symm⟩) (by decide) (fun w hS => R.build (parts := [(0, _), (1, _)]) (vals := [(0, _), (1, _)]) rfl (fun w => build25_2 _ _ w)) ?_
            refine AH.eff 16 (by kernel_rfl) rfl rfl (OP.val (by decide) (R.load Tryd.underlying3 rfl rfl (by rw [Nat.zero_add, Nat.mul_one]; exact cell_at hN (by rw [List.getElem?_toArray, List.getElem?_map, codeN_at f]; rfl))) ?_)
            refine ⟨⟨hB6.trans hB6_d.symm, hB8.trans hB8_d.symm⟩, ?_⟩
            refine AH.take 24 rfl (by kernel_rfl) (by kernel_rfl) (by kernel_rfl) (fun _ _ _ _ h => h) (⟨hB6.trans hB6_d.symm, hB8.trans hB8_d.symm⟩) (by decide) (fun w hS => R.build (parts := [(0, _), (1, _), (2, _), (3, _), (4, _), (5, _)]) (vals := [(0, _), (1, _), (2, _), (3, _), (4, _), (5, _)]) rfl (fun w => build33_6 _ _ _ _ _ _ _ w)) ?_
            refine AH.eff 26 (by kernel_rfl) rfl rfl (OP.storeM rfl rfl hB9 ?_)
            intro w93 hc_w93 hs_w93 hB9
            have hB6 := hc_w93.at hB6 (fun e => by omega)
            have hB8 := hc_w93.at hB8 (fun e => by omega)
            have hN := hc_w93.at hN (fun e => by omega)
            have hC := hC.thenB hc_w93 (by omega)
            refine ⟨⟨hB6.trans hB6_d.symm, hB8.trans hB8_d.symm⟩, ?_⟩
            refine AH.done (by kernel_rfl) ?_
            exact EW.cutK [3, 8, 9] ⟨b9, _, hC, rfl, by omega, by omega, by omega, by omega, by omega, rfl, hB8, hB9⟩
        · skip
          refine (OP.call (by decide) Tryd.func48 (by kernel_rfl) (by kernel_rfl) rfl (record_any _ _ hq) ?_)
          rintro ed w94 ⟨rfl, hc_w94⟩
          refine ⟨_, rfl, ?_⟩
          have hB6 := hc_w94.at hB6 (fun e => e)
          have hB8 := hc_w94.at hB8 (fun e => e)
          have hB9 := hc_w94.at hB9 (fun e => e)
          have hC := hC.trans hc_w94
          have hz_w94 := hc_w94.size
          refine ⟨⟨hB6.trans hB6_d.symm, hB8.trans hB8_d.symm⟩, ?_⟩
          refine AH.take 22 rfl (by kernel_rfl) (by kernel_rfl) (by kernel_rfl) (fun _ _ _ _ h => h) (⟨hB6.trans hB6_d.symm, hB8.trans hB8_d.symm⟩) (by decide) (fun w hS => R.field1 Tryd.underlying57 rfl Tryd.underlying3 rfl rfl (recS q).at1) ?_
          refine AH.take 23 rfl (by kernel_rfl) (by kernel_rfl) (by kernel_rfl) (fun _ _ _ _ h => h) (⟨hB6.trans hB6_d.symm, hB8.trans hB8_d.symm⟩) (by decide) (fun w hS => R.build (parts := [(0, _), (1, _)]) (vals := [(0, _), (1, _)]) rfl (fun w => build25_2 _ _ w)) ?_
          refine AH.eff 11 (by kernel_rfl) rfl rfl (OP.buildSlice (parts := [(0, _), (1, _), (2, _), (3, _)]) (vals := [(0, _), (1, _), (2, _), (3, _)]) (cells := (codesA.map (Value.int .i64)).toArray) (ty := 3) (by decide) rfl slice_codes ?_)
          intro w95 hc_w95 hs_w95 hN
          obtain ⟨bN, he_bN⟩ : ∃ b, b = w94.heap.size := ⟨_, rfl⟩
          rw [← he_bN] at hN ⊢
          have hB6 := hc_w95.at hB6 (fun e => e)
          have hB8 := hc_w95.at hB8 (fun e => e)
          have hB9 := hc_w95.at hB9 (fun e => e)
          have hC := hC.trans hc_w95
          have hz_w95 := hc_w95.size
          refine ⟨⟨hB6.trans hB6_d.symm, hB8.trans hB8_d.symm⟩, ?_⟩
          refine AH.take 15 rfl (by kernel_rfl) (by kernel_rfl) (by kernel_rfl) (fun _ _ _ _ h => h) (⟨hB6.trans hB6_d.symm, hB8.trans hB8_d.symm⟩) (by decide) (fun w hS => R.indexAddr1 (i := (f / 2 ^ (3 : Int).toNat % 4).toNat) Tryd.underlying65 sz3 rfl rfl (by omega) (by omega)) ?_
          refine AH.eff 16 (by kernel_rfl) rfl rfl (OP.val (by decide) (R.load Tryd.underlying3 rfl rfl (by rw [Nat.zero_add, Nat.mul_one]; exact cell_at hN (by rw [List.getElem?_toArray, List.getElem?_map, codeN_at f]; rfl))) ?_)
          refine ⟨⟨hB6.trans hB6_d.symm, hB8.trans hB8_d.symm⟩, ?_⟩
          refine AH.take 24 rfl (by kernel_rfl) (by kernel_rfl) (by kernel_rfl) (fun _ _ _ _ h => h) (⟨hB6.trans hB6_d.symm, hB8.trans hB8_d.symm⟩) (by decide) (fun w hS => R.build (parts := [(0, _), (1, _), (2, _), (3, _), (4, _), (5, _)]) (vals := [(0, _), (1, _), (2, _), (3, _), (4, _), (5, _)]) rfl (fun w => build33_6 _ _ _ _ _ _ _ w)) ?_
          refine AH.eff 26 (by kernel_rfl) rfl rfl (OP.storeM rfl rfl hB9 ?_)
          intro w96 hc_w96 hs_w96 hB9
          have hB6 := hc_w96.at hB6 (fun e => by omega)
          have hB8 := hc_w96.at hB8 (fun e => by omega)
          have hN := hc_w96.at hN (fun e => by omega)
          have hC := hC.thenB hc_w96 (by omega)
          refine ⟨⟨hB6.trans hB6_d.symm, hB8.trans hB8_d.symm⟩, ?_⟩
          refine AH.done (by kernel_rfl) ?_
          exact EW.cutK [3, 8, 9] ⟨b9, _, hC, rfl, by omega, by omega, by omega, by omega, by omega, rfl, hB8, hB9⟩
  · rintro le wc ⟨b9, base, hC, hbase, hb8, hb9, hb8b, hb9b, hne, rfl, hB8, hB9⟩
    have hz_hC := hC.size
    refine CW.seq ?_
    refine CW.rseq ?_
    refine WL.op (by decide) (R.move rfl) ?_
    refine WL.op (by decide) (R.lenSlice rfl Tryd.underlying48 rfl) ?_
    refine WL.op (by decide) (R.move rfl) ?_
    refine WL.next ?_
    refine CW.block ?_
    refine CW.loopK [8, 9, 38, 39, 40] (fun k le wr => Chg (fun _ => False) w0 wr ∧ base ≤ wr.heap.size ∧ ∃ (j : Nat) (jj : Int) (A1 : Option Addr) (c1 : Nat) (A2 : Option Addr) (c2 : Nat), j + k = l.length ∧ j ≤ 32 ∧ jj = (j : Int) ∧ le = [(8, .pointer (some ⟨b8, 0, none⟩)), (9, .pointer (some ⟨b9, 0, none⟩)), (38, .slice A m c), (39, .int .i64 m), (40, .int .i64 jj)] ∧ BM wr b8 msg0 (.slice none 0 0) (.slice none 0 0) ∧ BM wr b9 (withR (msgH id f q) (ansS (l.take j)) (authS (l.take j))) (.slice A1 (ansS (l.take j)).length c1) (.slice A2 (authS (l.take j)).length c2) ∧ RBuf wr base (.slice A1 (ansS (l.take j)).length c1) (ansS (l.take j)) ∧ RBuf wr base (.slice A2 (authS (l.take j)).length c2) (authS (l.take j)) ∧ Dis (.slice A1 (ansS (l.take j)).length c1) (.slice A2 (authS (l.take j)).length c2)) (l.length) ?_ ?_
    · exact ⟨hC, by omega, 0, 0, none, 0, none, 0, by omega, by omega, rfl, rfl, hB8, hB9, RBuf.nil _ _, RBuf.nil _ _, fun _ e => by cases e⟩
    · rintro k le wr ⟨hC, hbw, j, jj, A1, c1, A2, c2, hk, hj32, rfl, rfl, hB8, hB9, hRA, hRB, hD⟩
      have hla := ans_len l j
      have hlb := auth_len l j
      have hK : Chg (fun _ => False) wr wr := Chg.refl _ _
      have hz_hC := hC.size
      have hz_hK := hK.size
      refine CW.rseq ?_
      refine WL.lssS (by decide) rfl rfl (fun h1 => ?_) (fun h1 => ?_)
      · skip
        refine WL.next ?_
        refine CW.seq ?_
        refine CW.condT rfl ?_
        refine CW.skip ?_
        refine EW.next ?_
        refine CW.seq ?_
        refine CW.block ?_
        refine CW.rseq ?_
        refine WL.op (by decide) (R.move rfl) ?_
        obtain ⟨s, hs⟩ : ∃ s, l[j]? = some s := ⟨l[j]'(by omega), List.getElem?_eq_getElem _⟩
        obtain ⟨hlm2, g, o, hA, hcell⟩ := (hL.kept hC).at hs
        subst hA
        have hs16 := (hO s (List.mem_of_getElem? hs)).a
        have hsd := (hO s (List.mem_of_getElem? hs)).d
        have hr16 := recS_addr hs16
        refine WL.op (by decide) (R.indexAddr1 (i := j) Tryd.underlying48 sz50 rfl rfl (by omega) (by omega)) ?_
        refine WL.op (by decide) (R.loadSdAt hs16 rfl hcell) ?_
        refine WL.eff rfl (OP.allocSd (by decide) ?_)
        intro w97 hc_w97 hs_w97 hB11
        obtain ⟨b11, he_b11⟩ : ∃ b, b = wr.heap.size := ⟨_, rfl⟩
        rw [← he_b11] at hB11 ⊢
        have hB8 := hc_w97.at hB8 (fun e => e)
        have hB9 := hc_w97.at hB9 (fun e => e)
        have hC := hC.trans hc_w97
        have hK := hK.trans hc_w97
        have hz_w97 := hc_w97.size
        refine WL.op (by decide) (R.assign rfl) ?_
        refine WL.eff rfl (OP.storeSd (by assumption) (by first | rfl | assumption) rfl rfl hB11 ?_)
        intro w98 hc_w98 hs_w98 hB11
        have hB8 := hc_w98.at hB8 (fun e => by omega)
        have hB9 := hc_w98.at hB9 (fun e => by omega)
        have hC := hC.thenB hc_w98 (by omega)
        have hK := hK.thenB hc_w98 (by omega)
        refine WL.next ?_
        refine CW.seq ?_
        refine CW.rseq ?_
        refine WL.op (by decide) (R.move rfl) ?_
        refine WL.geqS (by decide) rfl rfl (fun h2 => ?_) (fun h2 => ?_)
        · skip
          refine WL.next ?_
          refine CW.condT rfl ?_
          refine CW.exit ?_
          refine EW.thenExit ?_
          refine EW.inFar (by decide) ?_
          refine EW.thenExit ?_
          refine EW.thenExit ?_
          refine EW.inHere ?_
          refine EW.next ?_
          refine CW.rseq ?_
          refine WL.op (by decide) (R.loadM rfl hB9) ?_
          have hRA := hRA.kept hK (fun _ _ e => e)
          have hRB := hRB.kept hK (fun _ _ e => e)
          have hT := take_end (l := l) (j := j) (by omega)
          have hE : withR (msgH id f q) (ansS (l.take j)) (authS (l.take j)) = msgS id f q l := by unfold msgS msgH withR; rw [hT]
          refine WL.eff rfl (OP.storeM rfl rfl hB8 ?_)
          intro w99 hc_w99 hs_w99 hB8
          rw [hE] at hB8
          have hB9 := hc_w99.at hB9 (fun e => by omega)
          have hB11 := hc_w99.at hB11 (fun e => by omega)
          have hC := hC.thenB hc_w99 (by omega)
          have hRA := hRA.kept hc_w99 (fun k e1 e2 => by have := hRA.lt k e1; omega)
          have hRB := hRB.kept hc_w99 (fun k e1 e2 => by have := hRB.lt k e1; omega)
          refine WL.next ?_
          refine CW.ret ?_
          exact EW.retC (.inl rfl) rfl rfl (cs := (msgS id f q l).cells (.slice A1 (ansS (l.take j)).length c1) (.slice A2 (authS (l.take j)).length c2)) Tryd.underlying33 rfl sz33 (fun j u hj => cell_at hB8 (by rw [List.getElem?_toArray]; exact hj)) ⟨hC, _, rfl, _, _, rfl, (by have := hRA.sl; rw [hT] at this ⊢; exact this), (by have := hRB.sl; rw [hT] at this ⊢; exact this), fun k e => Nat.le_trans (by omega) (hRA.lt k e).1, fun k e => Nat.le_trans (by omega) (hRB.lt k e).1⟩
        · skip
          refine WL.next ?_
          refine CW.condF rfl ?_
          refine CW.skip ?_
          refine EW.next ?_
          refine CW.rseq ?_
          refine WL.op (by decide) (R.loadSd (by assumption) rfl hB11) ?_
          refine WL.eff rfl (OP.call (by decide) Tryd.func48 (by kernel_rfl) (by kernel_rfl) rfl (record_any _ _ (hO s (List.mem_of_getElem? hs))) ?_)
          rintro ed w101 ⟨rfl, hc_w101⟩
          refine ⟨_, rfl, ?_⟩
          have hB8 := hc_w101.at hB8 (fun e => e)
          have hB9 := hc_w101.at hB9 (fun e => e)
          have hB11 := hc_w101.at hB11 (fun e => e)
          have hC := hC.trans hc_w101
          have hK := hK.trans hc_w101
          have hz_w101 := hc_w101.size
          refine WL.eff rfl (OP.allocR (by decide) ?_)
          intro w102 hc_w102 hs_w102 hB12
          obtain ⟨b12, he_b12⟩ : ∃ b, b = w101.heap.size := ⟨_, rfl⟩
          rw [← he_b12] at hB12 ⊢
          have hB8 := hc_w102.at hB8 (fun e => e)
          have hB9 := hc_w102.at hB9 (fun e => e)
          have hB11 := hc_w102.at hB11 (fun e => e)
          have hC := hC.trans hc_w102
          have hK := hK.trans hc_w102
          have hz_w102 := hc_w102.size
          refine WL.eff rfl (OP.storeR rfl rfl (by first | assumption | rfl) (by first | assumption | rfl) hB12 ?_)
          intro w103 hc_w103 hs_w103 hB12
          have hB8 := hc_w103.at hB8 (fun e => by omega)
          have hB9 := hc_w103.at hB9 (fun e => by omega)
          have hB11 := hc_w103.at hB11 (fun e => by omega)
          have hC := hC.thenB hc_w103 (by omega)
          have hK := hK.thenB hc_w103 (by omega)
          refine WL.next ?_
          refine CW.rseq ?_
          refine WL.op (by decide) (FA57_1 rfl) ?_
          refine WL.op (by decide) (R.load Tryd.underlying3 rfl rfl (cell_at hB12 rfl)) ?_
          refine WL.eqlS (by decide) rfl rfl (fun h3 => ?_) (fun h3 => ?_)
          · skip
            refine WL.next ?_
            refine CW.condT rfl ?_
            refine CW.region ?_
            refine WL.op (by decide) (FA33_7 rfl) ?_
            refine WL.op (by decide) (R.load Tryd.underlying31 rfl rfl (cell_at hB9 rfl)) ?_
            refine WL.op (by decide) (R.loadRB (by first | assumption | rfl) rfl hB12) ?_
            refine WL.eff rfl (OP.buildSliceR (by decide) rfl hr16 ?_)
            intro w104 hc_w104 hs_w104 hN
            have hB8 := hc_w104.at hB8 (fun e => e)
            have hB9 := hc_w104.at hB9 (fun e => e)
            have hB11 := hc_w104.at hB11 (fun e => e)
            have hB12 := hc_w104.at hB12 (fun e => e)
            have hC := hC.trans hc_w104
            have hK := hK.trans hc_w104
            have hz_w104 := hc_w104.size
            have hRA := hRA.kept hK (fun _ _ e => e)
            have hRB := hRB.kept hK (fun _ _ e => e)
            refine WL.eff rfl (OP.appendR (by decide) rfl rfl hRB hr16 hN (by omega) (by omega) ?_)
            intro v2 w106 hRn hMv
            obtain ⟨hRA, hD, hc_w106⟩ := append_two hRB hRA (fun k e1 e2 => hD k e2 e1) hRn hMv
            have hD := fun k e1 e2 => hD k e2 e1
            have hRB := hRn
            clear hRn hMv
            obtain ⟨A2, c2, rfl, _⟩ := hRB.sl.form
            have hB8 := hc_w106.at hB8 (fun e => by omega)
            have hB9 := hc_w106.at hB9 (fun e => by omega)
            have hC := hC.then hc_w106 (fun _ _ e => by omega)
            have hz_w106 := hc_w106.size
            refine WL.op (by decide) (FA33_7 rfl) ?_
            refine WL.eff rfl (OP.storeAuth (rs := authS (l.take j) ++ [recS s]) rfl rfl hB9 ?_)
            intro w108 hc_w108 hs_w108 hB9
            have hB8 := hc_w108.at hB8 (fun e => by omega)
            have hC := hC.thenB hc_w108 (by omega)
            have hRA := hRA.kept hc_w108 (fun k e1 e2 => by have := hRA.lt k e1; omega)
            have hRB := hRB.kept hc_w108 (fun k e1 e2 => by have := hRB.lt k e1; omega)
            have hN1 := ans_same hs (by simpa [isSoa] using (show (recS s).type = 6 by assumption))
            have hN2 := auth_snoc hs (by simpa [isSoa] using (show (recS s).type = 6 by assumption))
            refine WL.nil ?_
            refine EW.inNormal ?_
            refine EW.next ?_
            refine CW.region ?_
            refine WL.op (by decide) (R.add rfl rfl (by omega)) ?_
            refine WL.op (by decide) (R.move rfl) ?_
            refine WL.nil ?_
            exact EW.roundK [8, 9, 38, 39, 40] (k - 1) (by omega) ⟨hC, by omega, j + 1, _, A1, c1, A2, c2, by omega, by omega, by omega, rfl, hB8, by rw [hN1, hN2]; first | exact hB9 | simpa using hB9, by rw [hN1]; first | exact hRA | simpa using hRA, by rw [hN2]; first | exact hRB | simpa using hRB, by rw [hN1, hN2]; exact hD⟩
          · skip
            refine WL.next ?_
            refine CW.condF rfl ?_
            refine CW.region ?_
            refine WL.op (by decide) (FA33_6 rfl) ?_
            refine WL.op (by decide) (R.load Tryd.underlying31 rfl rfl (cell_at hB9 rfl)) ?_
            refine WL.op (by decide) (R.loadRB (by first | assumption | rfl) rfl hB12) ?_
            refine WL.eff rfl (OP.buildSliceR (by decide) rfl hr16 ?_)
            intro w110 hc_w110 hs_w110 hN
            have hB8 := hc_w110.at hB8 (fun e => e)
            have hB9 := hc_w110.at hB9 (fun e => e)
            have hB11 := hc_w110.at hB11 (fun e => e)
            have hB12 := hc_w110.at hB12 (fun e => e)
            have hC := hC.trans hc_w110
            have hK := hK.trans hc_w110
            have hz_w110 := hc_w110.size
            have hRA := hRA.kept hK (fun _ _ e => e)
            have hRB := hRB.kept hK (fun _ _ e => e)
            refine WL.eff rfl (OP.appendR (by decide) rfl rfl hRA hr16 hN (by omega) (by omega) ?_)
            intro v2 w112 hRn hMv
            obtain ⟨hRB, hD, hc_w112⟩ := append_two hRA hRB hD hRn hMv
            have hRA := hRn
            clear hRn hMv
            obtain ⟨A1, c1, rfl, _⟩ := hRA.sl.form
            have hB8 := hc_w112.at hB8 (fun e => by omega)
            have hB9 := hc_w112.at hB9 (fun e => by omega)
            have hC := hC.then hc_w112 (fun _ _ e => by omega)
            have hz_w112 := hc_w112.size
            refine WL.op (by decide) (FA33_6 rfl) ?_
            refine WL.eff rfl (OP.storeAns (rs := ansS (l.take j) ++ [recS s]) rfl rfl hB9 ?_)
            intro w114 hc_w114 hs_w114 hB9
            have hB8 := hc_w114.at hB8 (fun e => by omega)
            have hC := hC.thenB hc_w114 (by omega)
            have hRA := hRA.kept hc_w114 (fun k e1 e2 => by have := hRA.lt k e1; omega)
            have hRB := hRB.kept hc_w114 (fun k e1 e2 => by have := hRB.lt k e1; omega)
            have hN1 := ans_snoc hs (by simpa [isSoa] using (show ¬ (recS s).type = 6 by assumption))
            have hN2 := auth_same hs (by simpa [isSoa] using (show ¬ (recS s).type = 6 by assumption))
            refine WL.nil ?_
            refine EW.inNormal ?_
            refine EW.next ?_
            refine CW.region ?_
            refine WL.op (by decide) (R.add rfl rfl (by omega)) ?_
            refine WL.op (by decide) (R.move rfl) ?_
            refine WL.nil ?_
            exact EW.roundK [8, 9, 38, 39, 40] (k - 1) (by omega) ⟨hC, by omega, j + 1, _, A1, c1, A2, c2, by omega, by omega, by omega, rfl, hB8, by rw [hN1, hN2]; first | exact hB9 | simpa using hB9, by rw [hN1]; first | exact hRA | simpa using hRA, by rw [hN2]; first | exact hRB | simpa using hRB, by rw [hN1, hN2]; exact hD⟩
      · skip
        refine WL.next ?_
        refine CW.seq ?_
        refine CW.condF rfl ?_
        refine CW.exit ?_
        refine EW.thenExit ?_
        refine EW.thenExit ?_
        refine EW.inHere ?_
        refine EW.next ?_
        refine CW.rseq ?_
        refine WL.op (by decide) (R.loadM rfl hB9) ?_
        have hRA := hRA.kept hK (fun _ _ e => e)
        have hRB := hRB.kept hK (fun _ _ e => e)
        have hT := take_end (l := l) (j := j) (by omega)
        have hE : withR (msgH id f q) (ansS (l.take j)) (authS (l.take j)) = msgS id f q l := by unfold msgS msgH withR; rw [hT]
        refine WL.eff rfl (OP.storeM rfl rfl hB8 ?_)
        intro w116 hc_w116 hs_w116 hB8
        rw [hE] at hB8
        have hB9 := hc_w116.at hB9 (fun e => by omega)
        have hC := hC.thenB hc_w116 (by omega)
        have hRA := hRA.kept hc_w116 (fun k e1 e2 => by have := hRA.lt k e1; omega)
        have hRB := hRB.kept hc_w116 (fun k e1 e2 => by have := hRB.lt k e1; omega)
        refine WL.next ?_
        refine CW.ret ?_
        exact EW.retC (.inl rfl) rfl rfl (cs := (msgS id f q l).cells (.slice A1 (ansS (l.take j)).length c1) (.slice A2 (authS (l.take j)).length c2)) Tryd.underlying33 rfl sz33 (fun j u hj => cell_at hB8 (by rw [List.getElem?_toArray]; exact hj)) ⟨hC, _, rfl, _, _, rfl, (by have := hRA.sl; rw [hT] at this ⊢; exact this), (by have := hRB.sl; rw [hT] at this ⊢; exact this), fun k e => Nat.le_trans (by omega) (hRA.lt k e).1, fun k e => Nat.le_trans (by omega) (hRB.lt k e).1⟩
end Go.Proofs.YthcpjcgjmdfpjaaDoor

namespace Go.Proofs.YthcpjcgjmdfpjaaDoor
open Go Go.RowKit
set_option maxRecDepth 100000
set_option maxHeartbeats 4000000

theorem msgMore_any (id : Int) (A : Option Addr) (m c : Nat) (l : List SeedV) (A2 : Option Addr) (m2 c2 : Nat) (mo : List UInt8) (w0 : World) (hL : Sl SeedV.cells 20 w0 A m l) (hO : ∀ s ∈ l, s.Ok) (hmc : m ≤ c) (hcm : c ≤ maxLen) (hG : Glob w0) (hSm : Src w0 A2 m2 c2 mo) (hA2 : A2 = none → c2 = 0) : Calls Tryd.prog 20 #[.int .i64 id, .slice A m c, .slice A2 m2 c2] w0 fun e w' => e = .returned (.bool true) ∧ Chg (fun _ => False) w0 w' := by
  have hC := Chg.refl (fun _ => False) w0
  have hlm := hL.1
  have hmx : maxLen = 9223372036854775807 := rfl
  have hml := hSm.len
  refine calls_cw (args := [.int .i64 id, .slice A m c, .slice A2 m2 c2]) Tryd.func20 rfl rfl ?_
  show CW _ _ _ 48 [(0, .int .i64 id), (1, .slice A m c), (2, .slice A2 m2 c2)] w0
  refine CW.rseq ?_
  refine WL.op (by decide) (R.assign rfl) ?_
  refine WL.next ?_
  refine CW.seq ?_
  refine CW.rseq ?_
  refine WL.eff rfl (OP.call (by decide) Tryd.func29 (by kernel_rfl) (by kernel_rfl) rfl (fit04_any _ (hG.keep0 hC)) ?_)
  rintro ed w1 ⟨rfl, hc_w1⟩
  refine ⟨_, rfl, ?_⟩
  have hC := hC.trans hc_w1
  have hz_w1 := hc_w1.size
  refine WL.op (by decide) (R.not rfl) ?_
  refine WL.next ?_
  refine CW.condF rfl ?_
  refine CW.skip ?_
  refine EW.next ?_
  refine CW.seq ?_
  refine CW.rseq ?_
  refine WL.op (by decide) (R.move rfl) ?_
  refine WL.eff rfl (OP.call (by decide) Tryd.func36 (by kernel_rfl) (by kernel_rfl) rfl (light_any _ _ _ _ _ (hL.keep0 hC) hO (by omega)) ?_)
  rintro ed w2 ⟨rfl, hc_w2⟩
  have hC := hC.trans hc_w2
  have hz_w2 := hc_w2.size
  cases hli : lightS l
  · skip
    refine ⟨_, rfl, ?_⟩
    refine WL.op (by decide) (R.not rfl) ?_
    refine WL.op (by decide) (R.move rfl) ?_
    refine WL.pass (by decide) rfl rfl rfl ?_
    refine WL.pass (by decide) rfl rfl rfl ?_
    refine WL.pass (by decide) rfl rfl rfl ?_
    refine WL.op (by decide) (R.pickT rfl rfl) ?_
    refine WL.op (by decide) (R.move rfl) ?_
    refine WL.pass (by decide) rfl rfl rfl ?_
    refine WL.pass (by decide) rfl rfl rfl ?_
    refine WL.pass (by decide) rfl rfl rfl ?_
    refine WL.op (by decide) (R.pickT rfl rfl) ?_
    refine WL.next ?_
    refine CW.condT rfl ?_
    refine CW.rseq ?_
    refine WL.op (by decide) (R.assign rfl) ?_
    refine WL.next ?_
    refine CW.ret ?_
    refine EW.thenRet ?_
    exact EW.ret1 (.inl rfl) rfl rfl ⟨rfl, hC⟩
  · skip
    refine ⟨_, rfl, ?_⟩
    refine WL.op (by decide) (R.not rfl) ?_
    refine WL.op (by decide) (R.move rfl) ?_
    refine WL.gop (by decide) rfl rfl rfl (R.move rfl) ?_
    refine WL.gop (by decide) rfl rfl rfl (R.lenSlice rfl Tryd.underlying48 rfl) ?_
    refine WL.gsplit _ (by decide) rfl rfl rfl (R.eqlD rfl rfl) (fun h1 => ?_) (fun h1 => ?_)
    · skip
      refine WL.op (by decide) (R.pickF rfl rfl) ?_
      refine WL.op (by decide) (R.move rfl) ?_
      refine WL.pass (by decide) rfl rfl rfl ?_
      refine WL.pass (by decide) rfl rfl rfl ?_
      refine WL.pass (by decide) rfl rfl rfl ?_
      refine WL.op (by decide) (R.pickT rfl rfl) ?_
      refine WL.next ?_
      refine CW.condT rfl ?_
      refine CW.rseq ?_
      refine WL.op (by decide) (R.assign rfl) ?_
      refine WL.next ?_
      refine CW.ret ?_
      refine EW.thenRet ?_
      exact EW.ret1 (.inl rfl) rfl rfl ⟨rfl, hC⟩
    · skip
      refine WL.op (by decide) (R.pickF rfl rfl) ?_
      refine WL.op (by decide) (R.move rfl) ?_
      refine WL.gop (by decide) rfl rfl rfl (R.move rfl) ?_
      refine WL.gop (by decide) rfl rfl rfl (R.lenSlice rfl Tryd.underlying36 rfl) ?_
      refine WL.gsplit _ (by decide) rfl rfl rfl (R.gtrD rfl rfl) (fun h2 => ?_) (fun h2 => ?_)
      · skip
        refine WL.op (by decide) (R.pickF rfl rfl) ?_
        refine WL.next ?_
        refine CW.condT rfl ?_
        refine CW.rseq ?_
        refine WL.op (by decide) (R.assign rfl) ?_
        refine WL.next ?_
        refine CW.ret ?_
        refine EW.thenRet ?_
        exact EW.ret1 (.inl rfl) rfl rfl ⟨rfl, hC⟩
      · skip
        refine WL.op (by decide) (R.pickF rfl rfl) ?_
        refine WL.next ?_
        refine CW.condF rfl ?_
        refine CW.skip ?_
        refine EW.next ?_
        refine CW.seq ?_
        obtain ⟨q, hq⟩ : ∃ q, l[0]? = some q := ⟨l[0]'(by omega), List.getElem?_eq_getElem _⟩
        obtain ⟨_, g0, o0, hA0, _⟩ := (hL.keep0 hC).at hq
        subst hA0
        have hq16 := (hO q (List.mem_of_getElem? hq)).a
        refine CW.draw (fun w => True) (by kernel_rfl) ?_
        have hc_w3 : Chg (fun _ => False) w2 w2.drew := Chg.drew _ _
        obtain ⟨w3, he_w3⟩ : ∃ w, w = w2.drew := ⟨_, rfl⟩
        rw [← he_w3] at hc_w3 ⊢
        have hC := hC.trans hc_w3
        have hz_w3 := hc_w3.size
        refine AH.take 0 rfl (by kernel_rfl) (by kernel_rfl) (by kernel_rfl) (fun _ _ _ _ h => h) (trivial) (by decide) (fun w hS => R.move rfl) ?_
        refine AH.take 1 rfl (by kernel_rfl) (by kernel_rfl) (by kernel_rfl) (fun _ _ _ _ h => h) (trivial) (by decide) (fun w hS => R.move rfl) ?_
        refine AH.take 2 rfl (by kernel_rfl) (by kernel_rfl) (by kernel_rfl) (fun _ _ _ _ h => h) (trivial) (by decide) (fun w hS => R.move rfl) ?_
        refine AH.take 3 rfl (by kernel_rfl) (by kernel_rfl) (by kernel_rfl) (fun _ _ _ _ h => h) (trivial) (by decide) (fun w hS => R.indexAddr1 (i := 0) Tryd.underlying48 sz50 rfl rfl rfl (by omega)) ?_
        refine AH.take 5 rfl (by kernel_rfl) (by kernel_rfl) (by kernel_rfl) (fun _ _ _ _ h => h) (trivial) (by decide) (fun w hS => R.move rfl) ?_
        refine AH.take 6 rfl (by kernel_rfl) (by kernel_rfl) (by kernel_rfl) (fun _ _ _ _ h => h) (trivial) (by decide) (fun w hS => R.sliceTail Tryd.underlying48 sz50 rfl rfl rfl (by omega) hmc) ?_
        refine AH.either 4 8 (by kernel_rfl) rfl rfl rfl rfl ?_ ?_
        · skip
          refine (OP.val (by decide) (R.loadSdAt hq16 rfl ((hL.keep0 hC).cellsAt hq)) ?_)
          refine ⟨trivial, ?_⟩
          refine AH.either 7 8 (by kernel_rfl) rfl rfl rfl rfl ?_ ?_
          · skip
            refine (OP.call (by decide) Tryd.func28 (by kernel_rfl) (by kernel_rfl) rfl (message_any _ _ _ _ _ _ (l.drop 1) _ (hO _ (List.mem_of_getElem? hq)) ((hL.keep0 hC).tail hmc (by omega)) (tail_ok hO) (by omega)) ?_)
            rintro ed w4 ⟨hc_w4, vM, rfl, vaM, vbM, rfl, hvaM, hvbM, hoaM, hobM⟩
            obtain ⟨AaM, caM, rfl, _⟩ := hvaM.form
            obtain ⟨AbM, cbM, rfl, _⟩ := hvbM.form
            obtain ⟨M, hM0⟩ : ∃ M, M = msgS id id q (l.drop 1) := ⟨_, rfl⟩
            have hbM : MBack M := by rw [hM0]; exact MBack.seeds (tail_16 hO)
            rw [← hM0] at hvaM hvbM hoaM hobM ⊢
            refine ⟨_, rfl, ?_⟩
            have hC := hC.trans hc_w4
            have hz_w4 := hc_w4.size
            have hK4 : Chg (fun _ => False) w4 w4 := Chg.refl _ _
            refine ⟨trivial, ?_⟩
            refine AH.eff 8 (by kernel_rfl) rfl rfl (OP.allocM (by decide) ?_)
            intro w5 hc_w5 hs_w5 hB7
            obtain ⟨b7, he_b7⟩ : ∃ b, b = w4.heap.size := ⟨_, rfl⟩
            rw [← he_b7] at hB7 ⊢
            have hC := hC.trans hc_w5
            have hK4 := hK4.trans hc_w5
            have hz_w5 := hc_w5.size
            refine ⟨trivial, ?_⟩
            refine AH.eff 9 (by kernel_rfl) rfl rfl (OP.storeM rfl rfl hB7 ?_)
            intro w6 hc_w6 hs_w6 hB7
            have hC := hC.thenB hc_w6 (by omega)
            have hK4 := hK4.thenB hc_w6 (by omega)
            refine ⟨trivial, ?_⟩
            refine AH.done (by kernel_rfl) ?_
            refine EW.next ?_
            refine CW.rseq ?_
            refine WL.op (by decide) (R.loadM rfl hB7) ?_
            refine WL.eff rfl (OP.call (by decide) Tryd.func24 (by kernel_rfl) (by kernel_rfl) rfl (encode_src _ _ _ ⟨_, _, rfl, (hvaM.keep0 hK4), (hvbM.keep0 hK4)⟩ (hbM)) ?_)
            rintro ed w7 ⟨gE, ceE, bsE, rfl, hbsE, hBufE, hSrcE, hmoreE, hdecE, hblE, hgeE, hglE, hc_w7⟩
            refine ⟨_, rfl, ?_⟩
            have hB7 := hc_w7.at hB7 (fun e => e)
            have hC := hC.trans hc_w7
            have hK4 := hK4.trans hc_w7
            have hz_w7 := hc_w7.size
            have hK7 : Chg (fun _ => False) w7 w7 := Chg.refl _ _
            refine WL.op (by decide) (R.move rfl) ?_
            refine WL.eff rfl (OP.appendSrc (by decide) rfl rfl (hBufE.keep0 hK7) (hSm.keep0 hC) hA2 (by omega) (by omega) ?_)
            intro v2 w8 hB2 hMv
            obtain ⟨g2, ce2, rfl, hSrc2, hc_w8, hgl2⟩ := appended (ne_of_dec hdecE) hB2 hMv (by omega)
            have hl2 : (bsE ++ mo).length = bsE.length + mo.length := List.length_append
            have hz_w8 := hc_w8.size
            have hB7 := hc_w8.at hB7 (fun e => by omega)
            have hC := hC.thenB hc_w8 (by omega)
            have hK4 := hK4.thenB hc_w8 (by omega)
            have hK8 : Chg (fun _ => False) w8 w8 := Chg.refl _ _
            refine WL.eff rfl (OP.call (by decide) Tryd.func27 (by kernel_rfl) (by kernel_rfl) rfl (decode_any _ _ _ _ _ (hSrc2.keep0 hK8) (by rintro _ _ ⟨⟩; omega) (by omega) (hG.keep0 hC)) ?_)
            rintro ed w9 ⟨hc_w9, hres⟩
            rw [(hmoreE mo)] at hres
            obtain ⟨vD, rfl, vaD, vbD, rfl, hvaD, hvbD, hoaD, hobD⟩ := hres
            obtain ⟨AaD, caD, rfl, _⟩ := hvaD.form
            obtain ⟨AbD, cbD, rfl, _⟩ := hvbD.form
            have hlenD := len_dec (hmoreE mo)
            refine ⟨_, rfl, ?_⟩
            have hB7 := hc_w9.at hB7 (fun e => e)
            have hC := hC.trans hc_w9
            have hK4 := hK4.trans hc_w9
            have hK8 := hK8.trans hc_w9
            have hz_w9 := hc_w9.size
            have hK9 : Chg (fun _ => False) w9 w9 := Chg.refl _ _
            refine WL.op (by decide) (R.move rfl) ?_
            refine WL.op (by decide) (R.extract rfl rfl) ?_
            refine WL.op (by decide) (R.extract rfl rfl) ?_
            refine WL.eff rfl (OP.allocM (by decide) ?_)
            intro w10 hc_w10 hs_w10 hB8
            obtain ⟨b8, he_b8⟩ : ∃ b, b = w9.heap.size := ⟨_, rfl⟩
            rw [← he_b8] at hB8 ⊢
            have hB7 := hc_w10.at hB7 (fun e => e)
            have hC := hC.trans hc_w10
            have hK4 := hK4.trans hc_w10
            have hK8 := hK8.trans hc_w10
            have hK9 := hK9.trans hc_w10
            have hz_w10 := hc_w10.size
            refine WL.eff rfl (OP.storeM rfl rfl hB8 ?_)
            intro w11 hc_w11 hs_w11 hB8
            have hB7 := hc_w11.at hB7 (fun e => by omega)
            have hC := hC.thenB hc_w11 (by omega)
            have hK4 := hK4.thenB hc_w11 (by omega)
            have hK8 := hK8.thenB hc_w11 (by omega)
            have hK9 := hK9.thenB hc_w11 (by omega)
            refine WL.op (by decide) (R.assign rfl) ?_
            refine WL.next ?_
            refine CW.rseq ?_
            refine WL.op (by decide) (R.move rfl) ?_
            refine WL.op (by decide) (R.eql rfl rfl (decide_eq_true (rfl))) ?_
            refine WL.op (by decide) (R.move rfl) ?_
            refine WL.gop (by decide) rfl rfl rfl (R.loadM rfl hB8) ?_
            refine WL.gop (by decide) rfl rfl rfl (R.loadM rfl hB7) ?_
            refine WL.geff rfl rfl rfl (OP.call (by decide) Tryd.func25 (by kernel_rfl) (by kernel_rfl) rfl (same_any _ _ _ _ _ ⟨_, _, rfl, (hvaD.keep0 hK9), (hvbD.keep0 hK9)⟩ ⟨_, _, rfl, (hvaM.keep0 hK4), (hvbM.keep0 hK4)⟩ hlenD.1 hlenD.2) ?_)
            rintro ed w12 ⟨rfl, hc_w12⟩
            rw [sameM_self]
            refine ⟨_, rfl, ?_⟩
            have hB7 := hc_w12.at hB7 (fun e => e)
            have hB8 := hc_w12.at hB8 (fun e => e)
            have hC := hC.trans hc_w12
            have hK4 := hK4.trans hc_w12
            have hK8 := hK8.trans hc_w12
            have hK9 := hK9.trans hc_w12
            have hz_w12 := hc_w12.size
            refine WL.op (by decide) (R.pickT rfl rfl) ?_
            refine WL.op (by decide) (R.assign rfl) ?_
            refine WL.next ?_
            refine CW.ret ?_
            exact EW.ret1 (.inl rfl) rfl rfl ⟨rfl, hC⟩
          · skip
            refine (OP.allocM (by decide) ?_)
            intro w13 hc_w13 hs_w13 hB7
            obtain ⟨b7, he_b7⟩ : ∃ b, b = w3.heap.size := ⟨_, rfl⟩
            rw [← he_b7] at hB7 ⊢
            have hC := hC.trans hc_w13
            have hz_w13 := hc_w13.size
            refine ⟨trivial, ?_⟩
            refine AH.eff 7 (by kernel_rfl) rfl rfl (OP.call (by decide) Tryd.func28 (by kernel_rfl) (by kernel_rfl) rfl (message_any _ _ _ _ _ _ (l.drop 1) _ (hO _ (List.mem_of_getElem? hq)) ((hL.keep0 hC).tail hmc (by omega)) (tail_ok hO) (by omega)) ?_)
            rintro ed w14 ⟨hc_w14, vM, rfl, vaM, vbM, rfl, hvaM, hvbM, hoaM, hobM⟩
            obtain ⟨AaM, caM, rfl, _⟩ := hvaM.form
            obtain ⟨AbM, cbM, rfl, _⟩ := hvbM.form
            obtain ⟨M, hM0⟩ : ∃ M, M = msgS id id q (l.drop 1) := ⟨_, rfl⟩
            have hbM : MBack M := by rw [hM0]; exact MBack.seeds (tail_16 hO)
            rw [← hM0] at hvaM hvbM hoaM hobM ⊢
            refine ⟨_, rfl, ?_⟩
            have hB7 := hc_w14.at hB7 (fun e => e)
            have hC := hC.trans hc_w14
            have hz_w14 := hc_w14.size
            have hK14 : Chg (fun _ => False) w14 w14 := Chg.refl _ _
            refine ⟨trivial, ?_⟩
            refine AH.eff 9 (by kernel_rfl) rfl rfl (OP.storeM rfl rfl hB7 ?_)
            intro w15 hc_w15 hs_w15 hB7
            have hC := hC.thenB hc_w15 (by omega)
            have hvaM := (hvaM.keep0 hK14).kept hc_w15 (fun k e1 e2 => by have := hoaM k e1; omega)
            have hvbM := (hvbM.keep0 hK14).kept hc_w15 (fun k e1 e2 => by have := hobM k e1; omega)
            have hK15 : Chg (fun _ => False) w15 w15 := Chg.refl _ _
            refine ⟨trivial, ?_⟩
            refine AH.done (by kernel_rfl) ?_
            refine EW.next ?_
            refine CW.rseq ?_
            refine WL.op (by decide) (R.loadM rfl hB7) ?_
            refine WL.eff rfl (OP.call (by decide) Tryd.func24 (by kernel_rfl) (by kernel_rfl) rfl (encode_src _ _ _ ⟨_, _, rfl, (hvaM.keep0 hK15), (hvbM.keep0 hK15)⟩ (hbM)) ?_)
            rintro ed w16 ⟨gE, ceE, bsE, rfl, hbsE, hBufE, hSrcE, hmoreE, hdecE, hblE, hgeE, hglE, hc_w16⟩
            refine ⟨_, rfl, ?_⟩
            have hB7 := hc_w16.at hB7 (fun e => e)
            have hC := hC.trans hc_w16
            have hK15 := hK15.trans hc_w16
            have hz_w16 := hc_w16.size
            have hK16 : Chg (fun _ => False) w16 w16 := Chg.refl _ _
            refine WL.op (by decide) (R.move rfl) ?_
            refine WL.eff rfl (OP.appendSrc (by decide) rfl rfl (hBufE.keep0 hK16) (hSm.keep0 hC) hA2 (by omega) (by omega) ?_)
            intro v2 w17 hB2 hMv
            obtain ⟨g2, ce2, rfl, hSrc2, hc_w17, hgl2⟩ := appended (ne_of_dec hdecE) hB2 hMv (by omega)
            have hl2 : (bsE ++ mo).length = bsE.length + mo.length := List.length_append
            have hz_w17 := hc_w17.size
            have hB7 := hc_w17.at hB7 (fun e => by omega)
            have hC := hC.thenB hc_w17 (by omega)
            have hK15 := hK15.thenB hc_w17 (by omega)
            have hK17 : Chg (fun _ => False) w17 w17 := Chg.refl _ _
            refine WL.eff rfl (OP.call (by decide) Tryd.func27 (by kernel_rfl) (by kernel_rfl) rfl (decode_any _ _ _ _ _ (hSrc2.keep0 hK17) (by rintro _ _ ⟨⟩; omega) (by omega) (hG.keep0 hC)) ?_)
            rintro ed w18 ⟨hc_w18, hres⟩
            rw [(hmoreE mo)] at hres
            obtain ⟨vD, rfl, vaD, vbD, rfl, hvaD, hvbD, hoaD, hobD⟩ := hres
            obtain ⟨AaD, caD, rfl, _⟩ := hvaD.form
            obtain ⟨AbD, cbD, rfl, _⟩ := hvbD.form
            have hlenD := len_dec (hmoreE mo)
            refine ⟨_, rfl, ?_⟩
            have hB7 := hc_w18.at hB7 (fun e => e)
            have hC := hC.trans hc_w18
            have hK15 := hK15.trans hc_w18
            have hK17 := hK17.trans hc_w18
            have hz_w18 := hc_w18.size
            have hK18 : Chg (fun _ => False) w18 w18 := Chg.refl _ _
            refine WL.op (by decide) (R.move rfl) ?_
            refine WL.op (by decide) (R.extract rfl rfl) ?_
            refine WL.op (by decide) (R.extract rfl rfl) ?_
            refine WL.eff rfl (OP.allocM (by decide) ?_)
            intro w19 hc_w19 hs_w19 hB8
            obtain ⟨b8, he_b8⟩ : ∃ b, b = w18.heap.size := ⟨_, rfl⟩
            rw [← he_b8] at hB8 ⊢
            have hB7 := hc_w19.at hB7 (fun e => e)
            have hC := hC.trans hc_w19
            have hK15 := hK15.trans hc_w19
            have hK17 := hK17.trans hc_w19
            have hK18 := hK18.trans hc_w19
            have hz_w19 := hc_w19.size
            refine WL.eff rfl (OP.storeM rfl rfl hB8 ?_)
            intro w20 hc_w20 hs_w20 hB8
            have hB7 := hc_w20.at hB7 (fun e => by omega)
            have hC := hC.thenB hc_w20 (by omega)
            have hK15 := hK15.thenB hc_w20 (by omega)
            have hK17 := hK17.thenB hc_w20 (by omega)
            have hK18 := hK18.thenB hc_w20 (by omega)
            refine WL.op (by decide) (R.assign rfl) ?_
            refine WL.next ?_
            refine CW.rseq ?_
            refine WL.op (by decide) (R.move rfl) ?_
            refine WL.op (by decide) (R.eql rfl rfl (decide_eq_true (rfl))) ?_
            refine WL.op (by decide) (R.move rfl) ?_
            refine WL.gop (by decide) rfl rfl rfl (R.loadM rfl hB8) ?_
            refine WL.gop (by decide) rfl rfl rfl (R.loadM rfl hB7) ?_
            refine WL.geff rfl rfl rfl (OP.call (by decide) Tryd.func25 (by kernel_rfl) (by kernel_rfl) rfl (same_any _ _ _ _ _ ⟨_, _, rfl, (hvaD.keep0 hK18), (hvbD.keep0 hK18)⟩ ⟨_, _, rfl, (hvaM.keep0 hK15), (hvbM.keep0 hK15)⟩ hlenD.1 hlenD.2) ?_)
            rintro ed w21 ⟨rfl, hc_w21⟩
            rw [sameM_self]
            refine ⟨_, rfl, ?_⟩
            have hB7 := hc_w21.at hB7 (fun e => e)
            have hB8 := hc_w21.at hB8 (fun e => e)
            have hC := hC.trans hc_w21
            have hK15 := hK15.trans hc_w21
            have hK17 := hK17.trans hc_w21
            have hK18 := hK18.trans hc_w21
            have hz_w21 := hc_w21.size
            refine WL.op (by decide) (R.pickT rfl rfl) ?_
            refine WL.op (by decide) (R.assign rfl) ?_
            refine WL.next ?_
            refine CW.ret ?_
            exact EW.ret1 (.inl rfl) rfl rfl ⟨rfl, hC⟩
        · skip
          refine (OP.allocM (by decide) ?_)
          intro w22 hc_w22 hs_w22 hB7
          obtain ⟨b7, he_b7⟩ : ∃ b, b = w3.heap.size := ⟨_, rfl⟩
          rw [← he_b7] at hB7 ⊢
          have hC := hC.trans hc_w22
          have hz_w22 := hc_w22.size
          refine ⟨trivial, ?_⟩
          refine AH.eff 4 (by kernel_rfl) rfl rfl (OP.val (by decide) (R.loadSdAt hq16 rfl ((hL.keep0 hC).cellsAt hq)) ?_)
          refine ⟨trivial, ?_⟩
          refine AH.eff 7 (by kernel_rfl) rfl rfl (OP.call (by decide) Tryd.func28 (by kernel_rfl) (by kernel_rfl) rfl (message_any _ _ _ _ _ _ (l.drop 1) _ (hO _ (List.mem_of_getElem? hq)) ((hL.keep0 hC).tail hmc (by omega)) (tail_ok hO) (by omega)) ?_)
          rintro ed w23 ⟨hc_w23, vM, rfl, vaM, vbM, rfl, hvaM, hvbM, hoaM, hobM⟩
          obtain ⟨AaM, caM, rfl, _⟩ := hvaM.form
          obtain ⟨AbM, cbM, rfl, _⟩ := hvbM.form
          obtain ⟨M, hM0⟩ : ∃ M, M = msgS id id q (l.drop 1) := ⟨_, rfl⟩
          have hbM : MBack M := by rw [hM0]; exact MBack.seeds (tail_16 hO)
          rw [← hM0] at hvaM hvbM hoaM hobM ⊢
          refine ⟨_, rfl, ?_⟩
          have hB7 := hc_w23.at hB7 (fun e => e)
          have hC := hC.trans hc_w23
          have hz_w23 := hc_w23.size
          have hK23 : Chg (fun _ => False) w23 w23 := Chg.refl _ _
          refine ⟨trivial, ?_⟩
          refine AH.eff 9 (by kernel_rfl) rfl rfl (OP.storeM rfl rfl hB7 ?_)
          intro w24 hc_w24 hs_w24 hB7
          have hC := hC.thenB hc_w24 (by omega)
          have hvaM := (hvaM.keep0 hK23).kept hc_w24 (fun k e1 e2 => by have := hoaM k e1; omega)
          have hvbM := (hvbM.keep0 hK23).kept hc_w24 (fun k e1 e2 => by have := hobM k e1; omega)
          have hK24 : Chg (fun _ => False) w24 w24 := Chg.refl _ _
          refine ⟨trivial, ?_⟩
          refine AH.done (by kernel_rfl) ?_
          refine EW.next ?_
          refine CW.rseq ?_
          refine WL.op (by decide) (R.loadM rfl hB7) ?_
          refine WL.eff rfl (OP.call (by decide) Tryd.func24 (by kernel_rfl) (by kernel_rfl) rfl (encode_src _ _ _ ⟨_, _, rfl, (hvaM.keep0 hK24), (hvbM.keep0 hK24)⟩ (hbM)) ?_)
          rintro ed w25 ⟨gE, ceE, bsE, rfl, hbsE, hBufE, hSrcE, hmoreE, hdecE, hblE, hgeE, hglE, hc_w25⟩
          refine ⟨_, rfl, ?_⟩
          have hB7 := hc_w25.at hB7 (fun e => e)
          have hC := hC.trans hc_w25
          have hK24 := hK24.trans hc_w25
          have hz_w25 := hc_w25.size
          have hK25 : Chg (fun _ => False) w25 w25 := Chg.refl _ _
          refine WL.op (by decide) (R.move rfl) ?_
          refine WL.eff rfl (OP.appendSrc (by decide) rfl rfl (hBufE.keep0 hK25) (hSm.keep0 hC) hA2 (by omega) (by omega) ?_)
          intro v2 w26 hB2 hMv
          obtain ⟨g2, ce2, rfl, hSrc2, hc_w26, hgl2⟩ := appended (ne_of_dec hdecE) hB2 hMv (by omega)
          have hl2 : (bsE ++ mo).length = bsE.length + mo.length := List.length_append
          have hz_w26 := hc_w26.size
          have hB7 := hc_w26.at hB7 (fun e => by omega)
          have hC := hC.thenB hc_w26 (by omega)
          have hK24 := hK24.thenB hc_w26 (by omega)
          have hK26 : Chg (fun _ => False) w26 w26 := Chg.refl _ _
          refine WL.eff rfl (OP.call (by decide) Tryd.func27 (by kernel_rfl) (by kernel_rfl) rfl (decode_any _ _ _ _ _ (hSrc2.keep0 hK26) (by rintro _ _ ⟨⟩; omega) (by omega) (hG.keep0 hC)) ?_)
          rintro ed w27 ⟨hc_w27, hres⟩
          rw [(hmoreE mo)] at hres
          obtain ⟨vD, rfl, vaD, vbD, rfl, hvaD, hvbD, hoaD, hobD⟩ := hres
          obtain ⟨AaD, caD, rfl, _⟩ := hvaD.form
          obtain ⟨AbD, cbD, rfl, _⟩ := hvbD.form
          have hlenD := len_dec (hmoreE mo)
          refine ⟨_, rfl, ?_⟩
          have hB7 := hc_w27.at hB7 (fun e => e)
          have hC := hC.trans hc_w27
          have hK24 := hK24.trans hc_w27
          have hK26 := hK26.trans hc_w27
          have hz_w27 := hc_w27.size
          have hK27 : Chg (fun _ => False) w27 w27 := Chg.refl _ _
          refine WL.op (by decide) (R.move rfl) ?_
          refine WL.op (by decide) (R.extract rfl rfl) ?_
          refine WL.op (by decide) (R.extract rfl rfl) ?_
          refine WL.eff rfl (OP.allocM (by decide) ?_)
          intro w28 hc_w28 hs_w28 hB8
          obtain ⟨b8, he_b8⟩ : ∃ b, b = w27.heap.size := ⟨_, rfl⟩
          rw [← he_b8] at hB8 ⊢
          have hB7 := hc_w28.at hB7 (fun e => e)
          have hC := hC.trans hc_w28
          have hK24 := hK24.trans hc_w28
          have hK26 := hK26.trans hc_w28
          have hK27 := hK27.trans hc_w28
          have hz_w28 := hc_w28.size
          refine WL.eff rfl (OP.storeM rfl rfl hB8 ?_)
          intro w29 hc_w29 hs_w29 hB8
          have hB7 := hc_w29.at hB7 (fun e => by omega)
          have hC := hC.thenB hc_w29 (by omega)
          have hK24 := hK24.thenB hc_w29 (by omega)
          have hK26 := hK26.thenB hc_w29 (by omega)
          have hK27 := hK27.thenB hc_w29 (by omega)
          refine WL.op (by decide) (R.assign rfl) ?_
          refine WL.next ?_
          refine CW.rseq ?_
          refine WL.op (by decide) (R.move rfl) ?_
          refine WL.op (by decide) (R.eql rfl rfl (decide_eq_true (rfl))) ?_
          refine WL.op (by decide) (R.move rfl) ?_
          refine WL.gop (by decide) rfl rfl rfl (R.loadM rfl hB8) ?_
          refine WL.gop (by decide) rfl rfl rfl (R.loadM rfl hB7) ?_
          refine WL.geff rfl rfl rfl (OP.call (by decide) Tryd.func25 (by kernel_rfl) (by kernel_rfl) rfl (same_any _ _ _ _ _ ⟨_, _, rfl, (hvaD.keep0 hK27), (hvbD.keep0 hK27)⟩ ⟨_, _, rfl, (hvaM.keep0 hK24), (hvbM.keep0 hK24)⟩ hlenD.1 hlenD.2) ?_)
          rintro ed w30 ⟨rfl, hc_w30⟩
          rw [sameM_self]
          refine ⟨_, rfl, ?_⟩
          have hB7 := hc_w30.at hB7 (fun e => e)
          have hB8 := hc_w30.at hB8 (fun e => e)
          have hC := hC.trans hc_w30
          have hK24 := hK24.trans hc_w30
          have hK26 := hK26.trans hc_w30
          have hK27 := hK27.trans hc_w30
          have hz_w30 := hc_w30.size
          refine WL.op (by decide) (R.pickT rfl rfl) ?_
          refine WL.op (by decide) (R.assign rfl) ?_
          refine WL.next ?_
          refine CW.ret ?_
          exact EW.ret1 (.inl rfl) rfl rfl ⟨rfl, hC⟩
end Go.Proofs.YthcpjcgjmdfpjaaDoor

namespace Go.Proofs.YthcpjcgjmdfpjaaDoor
open Go Go.ChangeShapes Go.WideShapes Go.ChangeAt Go.RowKit
set_option maxRecDepth 100000

theorem msgMore_lifted (os : Os) (started : os.Started) (H : Type) (enc : TypeId × Value → H) :
    ReturnsInHanded {} Tryd.checked os 20 .any (fun w args => (Rows.msgMoreSpec.pre enc Tryd.prog Tryd.f20 [] false w args ∧ laidMetH Tryd.prog laidL w) ∧ sizedMet enc Tryd.prog Tryd.f20 (OpenSpec.ofChange Rows.msgMoreSpec) false w args)
      (Rows.msgMoreSpec.post enc Tryd.prog Tryd.f20 false true false false) := by
  refine law_lifted (s := Rows.msgMoreSpec) started Tryd.func20 (by kernel_rfl) rfl (by kernel_rfl) (by kernel_rfl) ?_ ?_
    (ChangeSpec.witness_shaped (enc := enc) (C := Tryd.checked) (os := os) (X := fun w _ => laidMetH Tryd.prog laidL w) false (World.laidAll Tryd.prog os laidL) #[.int .i64 0, .slice none 0 0, .slice none 0 0] 8 (World.laidAll_os _ _ _)
      (World.shaped_of_ZipB (by kernel_rfl) (by kernel_rfl)) (by kernel_rfl) (by kernel_rfl) (by kernel_rfl)
      (by rw [MakeChecks.laidMetH_plain _ _ _ (by kernel_rfl)]; exact laidMet_laidAll _ (by kernel_rfl) (by kernel_rfl))) ?_
  · intro ds hl
    rw [show Tryd.f20.params.size = 3 by rw [Tryd.params20]; rfl] at hl
    obtain ⟨d0, d1, d2, rfl⟩ := list3 hl
    rfl
  · intro W vs ds ps h
    exact trodAll_len h
  intro W base args ds p hval hA hlt hw hG
  rw [Tryd.params20] at hA hval hw
  obtain ⟨v0, v1, v2, d0, d1, d2, p0, p1, p2, rfl, rfl, rfl, h0, h1, h2⟩ := trodAll_three hA
  obtain ⟨id, rfl, rfl, rfl, _⟩ := open_int Tryd.underlying3 (hval 0 3 v0 rfl rfl) h0
  obtain ⟨A, m, c, l, rfl, hmc, hcm, hL, hO⟩ := open_seeds (hval 1 48 v1 rfl rfl) h1
  obtain ⟨A2, m2, c2, mo, rfl, hS2, _, hA2⟩ := open_bytesN (hval 2 36 v2 rfl rfl) h2
  exact msgMore_any id A m c l A2 m2 c2 mo W hL hO hmc hcm hG hS2 hA2

theorem msgMore_joined : joinedFacts Tryd.prog 20 Tryd.f20 Rows.msgMoreSpec Rows.msgMoreRow = true :=
  joined_of seat_mayEnter seat_lifts seat_make rfl rfl rfl rfl (by kernel_rfl) (by kernel_rfl) (by kernel_rfl) (by kernel_rfl) (by kernel_rfl) (by kernel_rfl) (by kernel_rfl) (by kernel_rfl) (by kernel_rfl) (by kernel_rfl) (by kernel_rfl) (by kernel_rfl) (by kernel_rfl) (by kernel_rfl) (by kernel_rfl) (by kernel_rfl) (by kernel_rfl) (by kernel_rfl) (by kernel_rfl) (by kernel_rfl) (by kernel_rfl) (by kernel_rfl) (by kernel_rfl) (by kernel_rfl) (by kernel_rfl) (by kernel_rfl) (by kernel_rfl) (by kernel_rfl)
theorem msgMore_holds : Rows.MsgMoreSaid :=
  OpenClaim.holds_of_wide 20 Tryd.f20 rfl rfl rfl rfl rfl rfl rfl ⟨rfl, rfl, rfl, rfl, rfl⟩ rfl rfl rfl rfl rfl (by kernel_rfl) Tryd.func20 msgMore_joined
    (of_decide_eq_true (by kernel_rfl)) (by unfold Func.isWrapper; first | (rw [if_pos (by decide +kernel)]; kernel_rfl) | (rw [if_neg (by decide +kernel)]; exact ⟨rfl, rfl⟩))
    (fun os started H enc _ => msgMore_lifted os started H enc)
theorem msgMore_card : Rows.MsgMoreCardSaid :=
  Claim7.holds_tied_plain_at .later [] [.data] true (true, "6afa14409c1fcf784e159d3dd9af9e0af6fc07a3d3e06aa2c8b4c577951ca517") false msgMore_holds (fun _ h => by cases h) (by kernel_rfl) (fun _ h => by cases h) msgMore_row_tie rfl ⟨rfl, rfl⟩ seat_main rfl
    (fun f fn hf hfn => by
      obtain rfl : f = 20 := Option.some.inj ((show Tryd.prog.funcNamed "nomenclator/nomenclatorlaw04.MsgMore" = some 20 by kernel_rfl).symm.trans hf) |>.symm
      obtain rfl : fn = Tryd.f20 := (Option.some.inj (Tryd.func20.symm.trans hfn)).symm
      exact ⟨by kernel_rfl, fun j t ht => by
        rw [Tryd.params20] at ht
        have hm : t ∈ [3, 48, 36] := by simpa using Array.mem_of_getElem? ht
        have hall : ([3, 48, 36].all fun u => !Tryd.prog.wantsStandIn u) = true := by kernel_rfl
        exact (show Tryd.prog.wantsStandIn t = false by simpa using List.all_eq_true.1 hall t hm)⟩)
    (by kernel_rfl)
end Go.Proofs.YthcpjcgjmdfpjaaDoor
