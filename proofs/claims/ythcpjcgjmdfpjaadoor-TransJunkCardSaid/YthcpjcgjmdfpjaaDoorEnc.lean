/- msg.Encode. -/
import Derived.Test.YthcpjcgjmdfpjaaDoorWRec
namespace Go.Proofs.YthcpjcgjmdfpjaaDoor
open Go Go.RowKit
set_option maxRecDepth 100000
set_option maxHeartbeats 8000000

def bitAt (i : Nat) : Nat := ([32768, 512, 256][i]?).getD 0
/-- The flags, after so many bits. -/
def flagsTo (c : Nat) (ons : List Bool) : Nat → Nat
  | 0 => c
  | i + 1 => if (ons[i]?).getD false then flagsTo c ons i ||| bitAt i else flagsTo c ons i
def headNums (m : Msg) : List Int := [m.id, ((flagsTo m.code.toNat [m.reply, m.trunc, m.recur] 3 : Nat) : Int), 1, (m.ans.length : Nat), (m.auth.length : Nat), 0]
def wrRecs (rs : List Rec) (st : List UInt8 × At) : List UInt8 × At := rs.foldl (fun st r => wrRec r st) st
/-- A message's bytes. -/
def enc (m : Msg) : List UInt8 :=
  (wrRecs m.auth (wrRecs m.ans ((wrName m.qname ((headNums m).flatMap (beN 2), [])).1 ++ beN 2 m.qtype ++ beN 2 1, (wrName m.qname ((headNums m).flatMap (beN 2), [])).2))).1
theorem enc_eq {m : Msg} {st1 : List UInt8 × At} (h : st1 = ((wrName m.qname ((headNums m).flatMap (beN 2), [])).1 ++ beN 2 m.qtype ++ beN 2 1, (wrName m.qname ((headNums m).flatMap (beN 2), [])).2)) : enc m = (wrRecs m.auth (wrRecs m.ans st1)).1 := by subst h; rfl
theorem wrRecs_take {rs : List Rec} {j : Nat} {x : Rec} {st : List UInt8 × At} (h : rs[j]? = some x) : wrRecs (rs.take (j + 1)) st = wrRec x (wrRecs (rs.take j) st) := by
  have hlt := (List.getElem?_eq_some_iff.1 h).1
  have hv := (List.getElem?_eq_some_iff.1 h).2
  rw [List.take_succ_eq_append_getElem hlt, hv, wrRecs, List.foldl_append]; rfl
theorem wrRec_length (r : Rec) (st : List UInt8 × At) (h16 : r.addr.length = 16) : (wrRec r st).1.length ≤ st.1.length + r.name.length + r.text.length + r.data.length + 40 := by
  have h1 := wrName_length r.name st
  have h2 := wrBody_length r (wrHead r (wrName r.name st).1 ++ [0, 0]) (wrName r.name st).2 h16
  have h3 := wrHead_length r (wrName r.name st).1
  simp only [List.length_append, List.length_cons, List.length_nil] at h2
  show (setN _ _).length ≤ _
  rw [setN_length]; omega
theorem headNums_length (m : Msg) : (headNums m).length = 6 := rfl
theorem headNums_eq {m : Msg} {f : Nat} (h : f = flagsTo m.code.toNat [m.reply, m.trunc, m.recur] 3) : headNums m = [m.id, (f : Nat), 1, (m.ans.length : Nat), (m.auth.length : Nat), 0] := by subst h; rfl
theorem nums_at {m : Msg} {i : Nat} {q : Int} (h : (headNums m)[i]? = some q) : ((headNums m).map (Value.int .i64)).toArray[i]? = some (.int .i64 q) := by
  rw [List.getElem?_toArray, List.getElem?_map, h]; rfl
theorem nums_take {m : Msg} {i : Nat} {q : Int} (h : (headNums m)[i]? = some q) : ((headNums m).take (i + 1)).flatMap (beN 2) = ((headNums m).take i).flatMap (beN 2) ++ beN 2 q := by
  have hlt := (List.getElem?_eq_some_iff.1 h).1
  have hv := (List.getElem?_eq_some_iff.1 h).2
  rw [List.take_succ_eq_append_getElem hlt, hv, List.flatMap_append]; simp
theorem ons_at {a b c : Bool} {i : Nat} {on : Bool} (h : [a, b, c][i]? = some on) : (#[Value.bool a, .bool b, .bool c])[i]? = some (.bool on) := by
  match i, h with
  | 0, h => obtain rfl := Option.some.inj h; rfl
  | 1, h => obtain rfl := Option.some.inj h; rfl
  | 2, h => obtain rfl := Option.some.inj h; rfl
  | k + 3, h => simp at h
theorem bits_at {i bit : Nat} (h : [32768, 512, 256][i]? = some bit) : (#[Value.int .i64 32768, .int .i64 512, .int .i64 256])[i]? = some (.int .i64 (bit : Nat)) := by
  match i, h with
  | 0, h => obtain rfl := Option.some.inj h; rfl
  | 1, h => obtain rfl := Option.some.inj h; rfl
  | 2, h => obtain rfl := Option.some.inj h; rfl
  | k + 3, h => simp at h
theorem bit_lt {i bit : Nat} (h : [32768, 512, 256][i]? = some bit) : bit < 65536 := by
  match i, h with
  | 0, h => obtain rfl := Option.some.inj h; decide
  | 1, h => obtain rfl := Option.some.inj h; decide
  | 2, h => obtain rfl := Option.some.inj h; decide
  | k + 3, h => simp at h
theorem flags_on {c : Nat} {ons : List Bool} {i bit f : Nat} (h : ons[i]? = some true) (hb : [32768, 512, 256][i]? = some bit) (hf : f = flagsTo c ons i) : f ||| bit = flagsTo c ons (i + 1) := by
  subst hf
  simp [flagsTo, h, bitAt, hb]
theorem flags_off {c : Nat} {ons : List Bool} {i f : Nat} (h : ons[i]? = some false) (hf : f = flagsTo c ons i) : f = flagsTo c ons (i + 1) := by
  subst hf
  simp [flagsTo, h]
theorem build89 (a b c : Bool) (w : World) : (Instr.build 89 #[(0, .bool a), (1, .bool b), (2, .bool c)]).run Tryd.prog w = .ok (.agg #[.bool a, .bool b, .bool c]) w := by kernel_rfl
theorem build64 (a b c : Int) (w : World) : (Instr.build 64 #[(0, .int .i64 a), (1, .int .i64 b), (2, .int .i64 c)]).run Tryd.prog w = .ok (.agg #[.int .i64 a, .int .i64 b, .int .i64 c]) w := by kernel_rfl
theorem build93 (m : Nat) (w : World) : (Instr.build 93 #[(1, .map (some m))]).run Tryd.prog w = .ok (.agg #[.slice none 0 0, .map (some m)]) w := by kernel_rfl
theorem build94 (a b c d e f : Int) (w : World) : (Instr.build 94 #[(0, .int .i64 a), (1, .int .i64 b), (2, .int .i64 c), (3, .int .i64 d), (4, .int .i64 e), (5, .int .i64 f)]).run Tryd.prog w = .ok (.agg #[.int .i64 a, .int .i64 b, .int .i64 c, .int .i64 d, .int .i64 e, .int .i64 f]) w := by kernel_rfl

theorem Buf.mono {w : World} {base base' : Nat} {v : Value} {bs : List UInt8} (h : Buf w base v bs) (hb : base' ≤ base) : Buf w base' v bs :=
  ⟨h.1, h.2.imp id fun ⟨g, cap, cur, h1, h2, h3⟩ => ⟨g, cap, cur, h1, Nat.le_trans hb h2, h3⟩⟩
def Rec.tiny (r : Rec) : Prop := r.name.length ≤ 131072 ∧ r.text.length ≤ 131072 ∧ r.data.length ≤ 131072
/-- A message that may be encoded: short enough. -/
structure Msg.tiny (m : Msg) : Prop where
  q : m.qname.length ≤ 131072
  n : m.ans.length + m.auth.length ≤ 1000
  r : ∀ r ∈ m.ans ++ m.auth, r.tiny
  code : 0 ≤ m.code ∧ m.code ≤ 65535

theorem encode_any (m : Msg) (v0 : Value) (w : World) (hm : MV w v0 m) (ht : m.tiny) :
    Calls Tryd.prog 24 #[v0] w fun e w' => ∃ v, e = .returned v ∧ Buf w' w.heap.size v (enc m) ∧ Chg (fun _ => False) w w' := by
  obtain ⟨va, vb, rfl, hva, hvb⟩ := hm
  obtain ⟨Aa, ca, rfl, _⟩ := hva.form
  obtain ⟨Ab, cb, rfl, _⟩ := hvb.form
  obtain ⟨hql, hnl, hsm, hcode⟩ := ht
  refine calls_cw (args := [.agg (m.cells (.slice Aa m.ans.length ca) (.slice Ab m.auth.length cb)).toArray]) Tryd.func24 rfl rfl ?_
  show CW _ _ _ 102 [(0, .agg (m.cells (.slice Aa m.ans.length ca) (.slice Ab m.auth.length cb)).toArray)] w
  refine CW.rseq ?_  -- region 0
  refine WL.eff rfl (OP.box (by decide) rfl ?_)
  intro w1 hc1 hs1 hBm0
  obtain ⟨bm, he_bm⟩ : ∃ b, b = w.heap.size := ⟨_, rfl⟩
  have hBm : w1.heap[bm]? = some (.cells (m.cells (.slice Aa m.ans.length ca) (.slice Ab m.auth.length cb)).toArray 33 (0, 0)) := by rw [he_bm]; exact hBm0
  rw [← he_bm]
  have hC := hc1
  refine WL.op (by decide) (R.assign rfl) ?_  -- msg.go:112 t2 := (Op.assign c(Value.slice none 0 0))
  refine WL.next ?_
  refine CW.rseq ?_  -- region 1
  refine WL.op (by decide) (FA33_4 rfl) ?_  -- msg.go:113 t13 := (Op.fieldAddr 33 t1 4)
  refine WL.op (by decide) (R.load Tryd.underlying3 rfl rfl (cell_at hBm rfl)) ?_  -- msg.go:113 t14 := (Op.load 3 t13)
  refine WL.op (by decide) (R.assign rfl) ?_  -- msg.go:113 t3 := (Op.assign t14)
  refine WL.next ?_
  refine CW.seq ?_
  refine CW.rseq ?_  -- region 2
  refine WL.op (by decide) (FA33_1 rfl) ?_  -- msg.go:114 t15 := (Op.fieldAddr 33 t1 1)
  refine WL.op (by decide) (R.load Tryd.underlying4 rfl rfl (cell_at hBm rfl)) ?_  -- msg.go:114 t16 := (Op.load 4 t15)
  refine WL.op (by decide) (FA33_2 rfl) ?_  -- msg.go:114 t17 := (Op.fieldAddr 33 t1 2)
  refine WL.op (by decide) (R.load Tryd.underlying4 rfl rfl (cell_at hBm rfl)) ?_  -- msg.go:114 t18 := (Op.load 4 t17)
  refine WL.op (by decide) (FA33_3 rfl) ?_  -- msg.go:114 t19 := (Op.fieldAddr 33 t1 3)
  refine WL.op (by decide) (R.load Tryd.underlying4 rfl rfl (cell_at hBm rfl)) ?_  -- msg.go:114 t20 := (Op.load 4 t19)
  refine WL.op (by decide) (R.build (parts := [(0, _), (1, _), (2, _)]) (vals := [(0, _), (1, _), (2, _)]) rfl (fun w => build89 _ _ _ w)) ?_  -- msg.go:114 t21 := (Op.build 89 [(0, t16), (1, t18), (2, t20)])
  refine WL.op (by decide) (R.move rfl) ?_  -- msg.go:114 t22 := (Op.move c(Value.int IntKind.i64 0))
  refine WL.next ?_
  refine CW.block ?_
  refine CW.loopK [1, 3, 21, 22] (fun k l wr => w1 = wr ∧ ∃ (i : Nat) (ii : Int) (f : Nat), i + k = 3 ∧ ii = (i : Int) ∧ l = [(1, .pointer (some ⟨bm, 0, none⟩)), (3, .int .i64 (f : Nat)), (21, .agg #[.bool m.reply, .bool m.trunc, .bool m.recur]), (22, .int .i64 ii)] ∧ f = flagsTo m.code.toNat [m.reply, m.trunc, m.recur] i ∧ f < 65536) (3) ?_ ?_
  · exact ⟨rfl, 0, 0, m.code.toNat, by omega, rfl, by rw [Int.toNat_of_nonneg hcode.1]; rfl, rfl, by omega⟩
  · rintro k l wr ⟨rfl, i, ii, f, hik, rfl, rfl, hf, hf2⟩
    refine CW.rseq ?_  -- region 3
    refine WL.lssS (by decide) rfl rfl (fun h1 => ?_) (fun h1 => ?_)  -- msg.go:114 t23 := (Op.binOp BinOp.lss 3 t22 c(Value.int IntKind.i64 3) 3)
    · skip
      refine WL.next ?_
      refine CW.seq ?_
      refine CW.condT rfl ?_
      refine CW.skip ?_
      refine EW.next ?_
      refine CW.seq ?_
      refine CW.block ?_
      refine CW.rseq ?_  -- region 4
      obtain ⟨on, hon⟩ : ∃ b, [m.reply, m.trunc, m.recur][i]? = some b := ⟨[m.reply, m.trunc, m.recur][i]'(by simp; omega), List.getElem?_eq_getElem _⟩
      obtain ⟨bit, hbit⟩ : ∃ b, [32768, 512, 256][i]? = some b := ⟨[32768, 512, 256][i]'(by simp; omega), List.getElem?_eq_getElem _⟩
      have hbl := bit_lt hbit
      refine WL.op (by decide) (R.move rfl) ?_
      refine WL.op (by decide) (R.index1 (v := .bool on) Tryd.underlying89 Tryd.underlying4 rfl sz4 rfl rfl rfl (by omega) (ons_at hon)) ?_  -- msg.go:114 t25 := (Op.index 89 t21 t22)
      refine WL.op (by decide) (R.assign rfl) ?_  -- msg.go:114 t4 := (Op.assign t24)
      refine WL.op (by decide) (R.assign rfl) ?_  -- msg.go:114 t5 := (Op.assign t25)
      refine WL.next ?_
      refine CW.rseq ?_  -- region 5
      cases on
      · skip
        refine WL.op (by decide) (R.move rfl) ?_
        refine WL.next ?_
        refine CW.condF rfl ?_
        refine CW.skip ?_
        refine EW.inNormal ?_
        refine EW.next ?_
        refine CW.region ?_  -- region 7
        refine WL.op (by decide) (R.add rfl rfl (by omega)) ?_  -- msg.go:114 t32 := (Op.binOp BinOp.add 3 t22 c(Value.int IntKind.i64 1) 3)
        refine WL.op (by decide) (R.move rfl) ?_  -- msg.go:114 t22 := (Op.move t32)
        refine WL.nil ?_
        exact EW.roundK [1, 3, 21, 22] (k - 1) (by omega) ⟨rfl, i + 1, _, _, by omega, by omega, rfl, flags_off hon hf, hf2⟩
      · skip
        refine WL.op (by decide) (R.move rfl) ?_
        refine WL.next ?_
        refine CW.condT rfl ?_
        refine CW.region ?_  -- region 6
        refine WL.op (by decide) (R.move rfl) ?_  -- msg.go:116 t27 := (Op.move t3)
        refine WL.op (by decide) (R.build (parts := [(0, _), (1, _), (2, _)]) (vals := [(0, _), (1, _), (2, _)]) rfl (fun w => build64 _ _ _ w)) ?_  -- msg.go:116 t28 := (Op.build 64 [(0, c(Value.int IntKind.i64 32768)), (1, c(Value.int IntKind.i64 512)), (2, 
        refine WL.op (by decide) (R.move rfl) ?_  -- msg.go:116 t29 := (Op.move t4)
        refine WL.op (by decide) (R.index1 (v := .int .i64 (bit : Nat)) Tryd.underlying64 Tryd.underlying3 rfl sz3 rfl rfl rfl (by omega) (bits_at hbit)) ?_  -- msg.go:116 t30 := (Op.index 64 t28 t29)
        refine WL.op (by decide) (R.orN rfl rfl (by omega) (by omega)) ?_  -- msg.go:116 t31 := (Op.binOp BinOp.or 3 t27 t30 3)
        refine WL.op (by decide) (R.assign rfl) ?_  -- msg.go:116 t3 := (Op.assign t31)
        refine WL.nil ?_
        refine EW.inNormal ?_
        refine EW.next ?_
        refine CW.region ?_  -- region 7
        refine WL.op (by decide) (R.add rfl rfl (by omega)) ?_  -- msg.go:114 t32 := (Op.binOp BinOp.add 3 t22 c(Value.int IntKind.i64 1) 3)
        refine WL.op (by decide) (R.move rfl) ?_  -- msg.go:114 t22 := (Op.move t32)
        refine WL.nil ?_
        exact EW.roundK [1, 3, 21, 22] (k - 1) (by omega) ⟨rfl, i + 1, _, _, by omega, by omega, rfl, flags_on hon hbit hf, Nat.or_lt_two_pow (n := 16) hf2 hbl⟩
    · skip
      refine WL.next ?_
      refine CW.seq ?_
      refine CW.condF rfl ?_
      refine CW.exit ?_
      refine EW.thenExit ?_
      refine EW.thenExit ?_
      refine EW.inHere ?_
      refine EW.next ?_
      refine CW.rseq ?_  -- region 8
      obtain rfl : i = 3 := by omega
      refine WL.eff rfl (OP.makeMap (by decide) ?_)
      intro w2 hc2 hs2 hmp0
      obtain ⟨mb, he_mb⟩ : ∃ b, b = w1.heap.size := ⟨_, rfl⟩
      rw [← he_mb] at hmp0 ⊢
      have hBm := hc2.at hBm (fun h => h)
      have hC := hC.trans hc2
      refine WL.op (by decide) (R.build (parts := [(1, _)]) (vals := [(1, _)]) rfl (fun w => build93 _ w)) ?_  -- msg.go:119 t34 := (Op.build 93 [(1, t33)])
      refine WL.eff rfl (OP.box (by decide) rfl ?_)
      intro w3 hc3 hs3 hW0
      obtain ⟨wb, he_wb⟩ : ∃ b, b = w2.heap.size := ⟨_, rfl⟩
      obtain ⟨base, he_base⟩ : ∃ b, b = w3.heap.size := ⟨_, rfl⟩
      have hW : w3.heap[wb]? = some (.cells #[.slice none 0 0, .map (some mb)] 93 (0, 0)) := by rw [he_wb]; exact hW0
      rw [← he_wb]
      have hM : WMap w3 mb [] := (WMap.made hmp0).kept hc3 (fun h => h)
      have hB : Buf w3 base (.slice none 0 0) [] := World.ownsRow_nil _ _ _ _
      have hBm := hc3.at hBm (fun h => h)
      have hC := hC.trans hc3
      have hgt : base ≤ w3.heap.size := by omega
      refine WL.op (by decide) (R.assign rfl) ?_  -- msg.go:119 t6 := (Op.assign t35)
      refine WL.next ?_
      refine CW.seq ?_
      refine CW.rseq ?_  -- region 9
      refine WL.op (by decide) (FA33_0 rfl) ?_  -- msg.go:120 t36 := (Op.fieldAddr 33 t1 0)
      refine WL.op (by decide) (R.load Tryd.underlying3 rfl rfl (cell_at hBm rfl)) ?_  -- msg.go:120 t37 := (Op.load 3 t36)
      refine WL.op (by decide) (R.move rfl) ?_  -- msg.go:120 t38 := (Op.move t3)
      refine WL.op (by decide) (FA33_6 rfl) ?_  -- msg.go:120 t39 := (Op.fieldAddr 33 t1 6)
      refine WL.op (by decide) (R.load Tryd.underlying31 rfl rfl (cell_at hBm rfl)) ?_  -- msg.go:120 t40 := (Op.load 31 t39)
      refine WL.op (by decide) (R.lenSlice rfl Tryd.underlying31 rfl) ?_  -- msg.go:120 t41 := (Op.call (Call.mk (Callee.builtin Builtin.len) [t40] [31]))
      refine WL.op (by decide) (FA33_7 rfl) ?_  -- msg.go:120 t42 := (Op.fieldAddr 33 t1 7)
      refine WL.op (by decide) (R.load Tryd.underlying31 rfl rfl (cell_at hBm rfl)) ?_  -- msg.go:120 t43 := (Op.load 31 t42)
      refine WL.op (by decide) (R.lenSlice rfl Tryd.underlying31 rfl) ?_  -- msg.go:120 t44 := (Op.call (Call.mk (Callee.builtin Builtin.len) [t43] [31]))
      refine WL.op (by decide) (R.build (parts := [(0, _), (1, _), (2, _), (3, _), (4, _), (5, _)]) (vals := [(0, _), (1, _), (2, _), (3, _), (4, _), (5, _)]) rfl (fun w => build94 _ _ _ _ _ _ w)) ?_  -- msg.go:120 t45 := (Op.build 94 [(0, t37), (1, t38), (2, c(Value.int IntKind.i64 1)), (3, t41), (4, t44), (5,
      refine WL.op (by decide) (R.move rfl) ?_  -- msg.go:120 t46 := (Op.move c(Value.int IntKind.i64 0))
      refine WL.next ?_
      refine CW.block ?_
      refine CW.loopK [1, 6, 45, 46] (fun k l wr => ∃ (i : Nat) (ii : Int) (v : Value), i + k = 6 ∧ ii = (i : Int) ∧ l = [(1, .pointer (some ⟨bm, 0, none⟩)), (6, .pointer (some ⟨wb, 0, none⟩)), (45, .agg ((headNums m).map (Value.int .i64)).toArray), (46, .int .i64 ii)] ∧ wr.heap[wb]? = some (.cells #[v, .map (some mb)] 93 (0, 0)) ∧ Buf wr base v (((headNums m).take i).flatMap (beN 2)) ∧ WMap wr mb [] ∧ Chg (fun _ => False) w wr ∧ base ≤ wr.heap.size ∧ wr.heap[bm]? = some (.cells (m.cells (.slice Aa m.ans.length ca) (.slice Ab m.auth.length cb)).toArray 33 (0, 0)) ∧ (((headNums m).take i).flatMap (beN 2)).length = 2 * i) (6) ?_ ?_
      · exact ⟨0, 0, _, by omega, rfl, by rw [headNums_eq hf]; rfl, hW, hB, hM, hC, hgt, hBm, rfl⟩
      · rintro k l wr ⟨i, ii, v, hik, rfl, rfl, hW, hB, hM, hC, hgt, hBm, hbl⟩
        refine CW.rseq ?_  -- region 10
        refine WL.lssS (by decide) rfl rfl (fun h2 => ?_) (fun h2 => ?_)  -- msg.go:120 t47 := (Op.binOp BinOp.lss 3 t46 c(Value.int IntKind.i64 6) 3)
        · skip
          refine WL.next ?_
          refine CW.seq ?_
          refine CW.condT rfl ?_
          refine CW.skip ?_
          refine EW.next ?_
          refine CW.seq ?_
          refine CW.block ?_
          refine CW.rseq ?_  -- region 11
          obtain ⟨q, hq⟩ : ∃ q, (headNums m)[i]? = some q := ⟨(headNums m)[i]'(by rw [headNums_length]; omega), List.getElem?_eq_getElem _⟩
          refine WL.op (by decide) (R.index1 (v := .int .i64 q) Tryd.underlying94 Tryd.underlying3 rfl sz3 rfl rfl rfl (by omega) (nums_at hq)) ?_
          refine WL.op (by decide) (R.assign rfl) ?_  -- msg.go:120 t8 := (Op.assign t48)
          refine WL.next ?_
          refine CW.region ?_  -- region 12
          refine WL.op (by decide) (R.move rfl) ?_  -- msg.go:121 t49 := (Op.move t6)
          refine WL.op (by decide) (R.move rfl) ?_  -- msg.go:121 t50 := (Op.move t6)
          refine WL.op (by decide) (R.nilCheck rfl) ?_  -- msg.go:121 t51 := (Op.nilCheck t50)
          refine WL.op (by decide) (FA93_0 rfl) ?_  -- msg.go:121 t52 := (Op.fieldAddr 93 t51 0)
          refine WL.op (by decide) (R.load Tryd.underlying36 rfl rfl (cell_at hW rfl)) ?_  -- msg.go:121 t53 := (Op.load 36 t52)
          refine WL.op (by decide) (R.move rfl) ?_  -- msg.go:121 t54 := (Op.move t8)
          refine WL.eff rfl (OP.call (by decide) Tryd.func42 (by kernel_rfl) (by kernel_rfl) rfl (put_any base _ _ 2 _ _ (by decide) hB (by omega) (by first | omega | (simp only [List.length_append, beN_length, List.length_cons, List.length_nil]; omega))) ?_)
          rintro ed w10 ⟨vw10, rfl, hB2, hMv⟩
          refine ⟨_, rfl, ?_⟩
          have hcm := Chg.moved hMv
          have hW := hcm.at hW (fun e => by have := hB.lt _ e.symm; omega)
          have hM := hM.kept hcm (fun e => by have := hB.lt _ e.symm; omega)
          have hBm := hcm.at hBm (fun e => by have := hB.lt _ e.symm; omega)
          have hC := hC.then hcm (fun k hk e => by have := hB.lt _ e.symm; omega)
          have hgt := Nat.le_trans hgt hcm.size
          have hB := hB2
          clear hB2 hMv
          refine WL.op (by decide) (R.nilCheck rfl) ?_  -- msg.go:121 t56 := (Op.nilCheck t49)
          refine WL.op (by decide) (FA93_0 rfl) ?_  -- msg.go:121 t57 := (Op.fieldAddr 93 t56 0)
          refine WL.eff rfl (OP.store1 sz36 rfl rfl hB.one.1 hB.one.2 hW (Nat.le_of_ble_eq_true rfl) rfl ?_)
          intro w11 hc11 _ hW
          have hM := hM.kept hc11 (fun e => by omega)
          have hB := hB.kept hc11 (fun k hk e => by have := hB.lt k hk; omega)
          have hBm := hc11.at hBm (by omega)
          have hC := hC.then hc11 (fun k hk e => by omega)
          have hgt := Nat.le_trans hgt hc11.size
          refine WL.nil ?_
          refine EW.inNormal ?_
          refine EW.next ?_
          refine CW.region ?_  -- region 13
          refine WL.op (by decide) (R.add rfl rfl (by omega)) ?_  -- msg.go:120 t58 := (Op.binOp BinOp.add 3 t46 c(Value.int IntKind.i64 1) 3)
          refine WL.op (by decide) (R.move rfl) ?_  -- msg.go:120 t46 := (Op.move t58)
          refine WL.nil ?_
          exact EW.roundK [1, 6, 45, 46] (k - 1) (by omega) ⟨i + 1, _, _, by omega, by omega, rfl, hW, by rw [nums_take hq]; exact hB, hM, hC, hgt, hBm, by rw [nums_take hq, List.length_append, hbl, beN_length]; omega⟩
        · skip
          refine WL.next ?_
          refine CW.seq ?_
          refine CW.condF rfl ?_
          refine CW.exit ?_
          obtain rfl : i = 6 := by omega
          rw [List.take_of_length_le (by rw [headNums_length]; omega)] at hbl hB
          refine EW.thenExit ?_
          refine EW.thenExit ?_
          refine EW.inHere ?_
          refine EW.next ?_
          refine CW.rseq ?_  -- region 14
          refine WL.op (by decide) (R.move rfl) ?_  -- msg.go:123 t59 := (Op.move t6)
          refine WL.op (by decide) (FA33_5 rfl) ?_  -- msg.go:123 t60 := (Op.fieldAddr 33 t1 5)
          refine WL.op (by decide) (FA25_0 rfl) ?_  -- msg.go:123 t61 := (Op.fieldAddr 25 t60 0)
          refine WL.op (by decide) (R.load Tryd.underlying9 rfl rfl (cell_at hBm rfl)) ?_  -- msg.go:123 t62 := (Op.load 9 t61)
          refine WL.eff rfl (OP.call (by decide) Tryd.func43 (by kernel_rfl) (by kernel_rfl) rfl (wname_any wb mb base _ ((headNums m).flatMap (beN 2), []) m.qname _ ⟨hW, hB, hM⟩ (by omega) (by omega) (by omega) (by omega) (by show (List.flatMap (beN 2) (headNums m)).length ≤ _; omega) (by omega)) ?_)
          rintro ed w12 ⟨rfl, vn, ⟨hW, hB2, hM⟩, hc12, hown⟩
          refine ⟨_, rfl, ?_⟩
          have hBm := hc12.at hBm (fun e => by rcases e with e | e | e <;> first | omega | (have := hB.lt _ e.symm; omega))
          have hC := hC.then hc12 (fun k hk e => by rcases e with e | e | e <;> first | omega | (have := hB.lt _ e.symm; omega))
          have hgt := Nat.le_trans hgt hc12.size
          have hB := hB2
          clear hB2
          have hln := wrName_length m.qname ((headNums m).flatMap (beN 2), [])
          simp only at hln
          refine WL.next ?_
          refine CW.seq ?_
          refine CW.draw (fun w0 => w0.heap[bm]? = some (.cells (m.cells (.slice Aa m.ans.length ca) (.slice Ab m.auth.length cb)).toArray 33 (0, 0))) (by kernel_rfl) ?_
          have hC := hC.trans (Chg.drew _ _)
          have hM := hM.kept (Chg.drew (fun _ => False) _) (fun h => h)
          have hB := hB.kept (Chg.drew (fun _ => False) _) (fun _ _ h => h)
          have hgt := Nat.le_trans hgt (Chg.drew (fun _ => False) _).size
          refine AH.take 0 rfl (by kernel_rfl) (by kernel_rfl) (by kernel_rfl) (fun _ _ _ _ h => h) hBm (by decide) (fun w hS => R.move rfl) ?_  -- msg.go:124 t64 := (Op.move t6)
          refine AH.take 1 rfl (by kernel_rfl) (by kernel_rfl) (by kernel_rfl) (fun _ _ _ _ h => h) hBm (by decide) (fun w hS => R.move rfl) ?_  -- msg.go:124 t65 := (Op.move t6)
          refine AH.take 2 rfl (by kernel_rfl) (by kernel_rfl) (by kernel_rfl) (fun _ _ _ _ h => h) hBm (by decide) (fun w hS => R.nilCheck rfl) ?_  -- msg.go:124 t66 := (Op.nilCheck t65)
          refine AH.take 3 rfl (by kernel_rfl) (by kernel_rfl) (by kernel_rfl) (fun _ _ _ _ h => h) hBm (by decide) (fun w hS => FA93_0 rfl) ?_  -- msg.go:124 t67 := (Op.fieldAddr 93 t66 0)
          refine AH.take 5 rfl (by kernel_rfl) (by kernel_rfl) (by kernel_rfl) (fun _ _ _ _ h => h) hBm (by decide) (fun w hS => FA33_5 rfl) ?_  -- msg.go:124 t69 := (Op.fieldAddr 33 t1 5)
          refine AH.take 6 rfl (by kernel_rfl) (by kernel_rfl) (by kernel_rfl) (fun _ _ _ _ h => h) hBm (by decide) (fun w hS => FA25_1 rfl) ?_  -- msg.go:124 t70 := (Op.fieldAddr 25 t69 1)
          refine AH.take 7 rfl (by kernel_rfl) (by kernel_rfl) (by kernel_rfl) (fun _ _ _ _ h => h) hBm (by decide) (fun w hS => R.load Tryd.underlying3 rfl rfl (cell_at hS rfl)) ?_  -- msg.go:124 t71 := (Op.load 3 t70)
          refine AH.eff 4 (by kernel_rfl) rfl rfl (OP.val (by decide) (R.load Tryd.underlying36 rfl rfl (cell_at hW rfl)) ?_)
          refine ⟨hBm, ?_⟩
          refine AH.eff 8 (by kernel_rfl) rfl rfl (OP.call (by decide) Tryd.func42 (by kernel_rfl) (by kernel_rfl) rfl (put_any base _ _ 2 _ _ (by decide) hB (by omega) (by first | omega | (simp only [List.length_append, beN_length, List.length_cons, List.length_nil]; omega))) ?_)
          rintro ed w13 ⟨vw13, rfl, hB2, hMv⟩
          refine ⟨_, rfl, (Chg.moved hMv).at hBm (fun e => by have := hB.lt _ e.symm; omega), ?_⟩
          have hcm := Chg.moved hMv
          have hW := hcm.at hW (fun e => by have := hB.lt _ e.symm; omega)
          have hM := hM.kept hcm (fun e => by have := hB.lt _ e.symm; omega)
          have hBm := hcm.at hBm (fun e => by have := hB.lt _ e.symm; omega)
          have hC := hC.then hcm (fun k hk e => by have := hB.lt _ e.symm; omega)
          have hgt := Nat.le_trans hgt hcm.size
          have hB := hB2
          clear hB2 hMv
          refine AH.eff 9 (by kernel_rfl) rfl rfl (OP.call (by decide) Tryd.func42 (by kernel_rfl) (by kernel_rfl) rfl (put_any base _ _ 2 _ _ (by decide) hB (by omega) (by first | omega | (simp only [List.length_append, beN_length, List.length_cons, List.length_nil]; omega))) ?_)
          rintro ed w14 ⟨vw14, rfl, hB2, hMv⟩
          refine ⟨_, rfl, (Chg.moved hMv).at hBm (fun e => by have := hB.lt _ e.symm; omega), ?_⟩
          have hcm := Chg.moved hMv
          have hW := hcm.at hW (fun e => by have := hB.lt _ e.symm; omega)
          have hM := hM.kept hcm (fun e => by have := hB.lt _ e.symm; omega)
          have hBm := hcm.at hBm (fun e => by have := hB.lt _ e.symm; omega)
          have hC := hC.then hcm (fun k hk e => by have := hB.lt _ e.symm; omega)
          have hgt := Nat.le_trans hgt hcm.size
          have hB := hB2
          clear hB2 hMv
          refine AH.eff 10 (by kernel_rfl) rfl rfl (OP.val (by decide) (R.nilCheck rfl) ?_)
          refine ⟨hBm, ?_⟩
          refine AH.eff 11 (by kernel_rfl) rfl rfl (OP.val (by decide) (FA93_0 rfl) ?_)
          refine ⟨hBm, ?_⟩
          refine AH.eff 12 (by kernel_rfl) rfl rfl (OP.store1 sz36 rfl rfl hB.one.1 hB.one.2 hW (Nat.le_of_ble_eq_true rfl) rfl ?_)
          intro w15 hc15 _ hW
          have hM := hM.kept hc15 (fun e => by omega)
          have hB := hB.kept hc15 (fun k hk e => by have := hB.lt k hk; omega)
          have hBm := hc15.at hBm (by omega)
          have hC := hC.then hc15 (fun k hk e => by omega)
          have hgt := Nat.le_trans hgt hc15.size
          refine ⟨hBm, ?_⟩
          refine AH.done (by kernel_rfl) ?_
          obtain ⟨st1, hst1⟩ : ∃ s, s = ((wrName m.qname ((headNums m).flatMap (beN 2), [])).1 ++ beN 2 m.qtype ++ beN 2 1, (wrName m.qname ((headNums m).flatMap (beN 2), [])).2) := ⟨_, rfl⟩
          have hB := (congrArg (fun s : List UInt8 × At => Buf w15 base vw14 s.1) hst1).mpr hB
          have hM := (congrArg (fun s : List UInt8 × At => WMap w15 mb s.2) hst1).mpr hM
          have hst1l : st1.1.length ≤ 200000 := by rw [hst1]; simp only [List.length_append, beN_length]; omega
          refine EW.next ?_
          refine CW.seq ?_
          refine CW.rseq ?_  -- region 16
          refine WL.op (by decide) (FA33_6 rfl) ?_  -- msg.go:125 t76 := (Op.fieldAddr 33 t1 6)
          refine WL.op (by decide) (R.load Tryd.underlying31 rfl rfl (cell_at hBm rfl)) ?_  -- msg.go:125 t77 := (Op.load 31 t76)
          refine WL.op (by decide) (R.lenSlice rfl Tryd.underlying31 rfl) ?_  -- msg.go:125 t78 := (Op.call (Call.mk (Callee.builtin Builtin.len) [t77] [31]))
          refine WL.op (by decide) (R.move rfl) ?_  -- msg.go:125 t79 := (Op.move c(Value.int IntKind.i64 0))
          refine WL.next ?_
          refine CW.block ?_
          refine CW.loopK [1, 6, 77, 78, 79] (fun k l wr => ∃ (j : Nat) (jj : Int) (v : Value), j + k = m.ans.length ∧ jj = (j : Int) ∧ l = [(1, .pointer (some ⟨bm, 0, none⟩)), (6, .pointer (some ⟨wb, 0, none⟩)), (77, .slice Aa m.ans.length ca), (78, .int .i64 m.ans.length), (79, .int .i64 jj)] ∧ WSt wr wb mb base v (wrRecs (m.ans.take j) st1) ∧ Chg (fun _ => False) w wr ∧ base ≤ wr.heap.size ∧ wr.heap[bm]? = some (.cells (m.cells (.slice Aa m.ans.length ca) (.slice Ab m.auth.length cb)).toArray 33 (0, 0)) ∧ (wrRecs (m.ans.take j) st1).1.length ≤ 200000 + j * 400000) (m.ans.length) ?_ ?_
          · exact ⟨0, 0, _, by omega, rfl, rfl, ⟨hW, hB, hM⟩, hC, hgt, hBm, by show st1.1.length ≤ _; omega⟩
          · rintro k l wr ⟨j, jj, v, hjk, rfl, rfl, ⟨hW, hB, hM⟩, hC, hgt, hBm, hlb⟩
            refine CW.rseq ?_  -- region 17
            refine WL.lssS (by decide) rfl rfl (fun h3 => ?_) (fun h3 => ?_)  -- msg.go:125 t80 := (Op.binOp BinOp.lss 3 t79 t78 3)
            · skip
              refine WL.next ?_
              refine CW.seq ?_
              refine CW.condT rfl ?_
              refine CW.skip ?_
              refine EW.next ?_
              refine CW.seq ?_
              refine CW.block ?_
              refine CW.rseq ?_  -- region 18
              obtain ⟨x, hx⟩ : ∃ x, m.ans[j]? = some x := ⟨m.ans[j]'(by omega), List.getElem?_eq_getElem _⟩
              have hsl := hva.kept hC (fun _ _ h => h)
              obtain ⟨hx16, _, g, o, rfl, hcell⟩ := hsl.at hx
              obtain ⟨hx1, hx2, hx3⟩ := hsm x (List.mem_append_left _ (List.mem_of_getElem? hx))
              refine WL.op (by decide) (R.indexAddr1 (i := j) Tryd.underlying31 sz57 rfl rfl rfl (by omega)) ?_
              refine WL.op (by decide) (R.loadR hx16 rfl hcell) ?_  -- msg.go:125 t82 := (Op.load 57 t81)
              refine WL.eff rfl (OP.allocR (by decide) ?_)
              intro w3 hc3 hs3 hb3
              refine WL.eff rfl (OP.storeR rfl rfl hx16 (by rfl) hb3 ?_)
              intro w4 hc4 hs4 hb4
              have hc34 : Chg (fun _ => False) wr w4 := hc3.then hc4 (fun k hk e => by omega)
              have hW := hc34.at hW (fun h => h)
              have hB := hB.kept hc34 (fun _ _ h => h)
              have hM := hM.kept hc34 (fun h => h)
              have hBm := hc34.at hBm (fun h => h)
              have hC := hC.trans hc34
              have hgt := Nat.le_trans hgt hc34.size
              refine WL.next ?_
              refine CW.region ?_  -- region 19
              refine WL.op (by decide) (R.move rfl) ?_  -- msg.go:126 t83 := (Op.move t6)
              refine WL.op (by decide) (R.loadRB hx16 rfl hb4) ?_  -- msg.go:126 t84 := (Op.load 57 t10)
              have hwl := wrRec_length x (wrRecs (m.ans.take j) st1) hx16
              refine WL.eff rfl (OP.call (by decide) Tryd.func44 (by kernel_rfl) (by kernel_rfl) rfl (wrec_any wb mb base _ _ x w4 ⟨hW, hB, hM⟩ hx16 (by omega) (by omega) (by omega) hgt (by omega) hx1 hx2 hx3) ?_)
              rintro ed w5 ⟨rfl, v2, hW2, hc5, hown⟩
              refine ⟨_, rfl, ?_⟩
              have hBm := hc5.at hBm (fun e => by rcases e with e | e | e <;> first | omega | (have := hB.lt _ e.symm; omega))
              have hC := hC.then hc5 (fun k hk e => by rcases e with e | e | e <;> first | omega | (have := hB.lt _ e.symm; omega))
              have hgt := Nat.le_trans hgt hc5.size
              refine WL.nil ?_
              refine EW.inNormal ?_
              refine EW.next ?_
              refine CW.region ?_  -- region 20
              refine WL.op (by decide) (R.add rfl rfl (by omega)) ?_  -- msg.go:125 t86 := (Op.binOp BinOp.add 3 t79 c(Value.int IntKind.i64 1) 3)
              refine WL.op (by decide) (R.move rfl) ?_  -- msg.go:125 t79 := (Op.move t86)
              refine WL.nil ?_
              exact EW.roundK [1, 6, 77, 78, 79] (k - 1) (by omega) ⟨j + 1, _, _, by omega, by omega, rfl, by rw [wrRecs_take hx]; exact hW2, hC, hgt, hBm, by rw [wrRecs_take hx]; omega⟩
            · skip
              refine WL.next ?_
              refine CW.seq ?_
              refine CW.condF rfl ?_
              refine CW.exit ?_
              obtain rfl : j = m.ans.length := by omega
              rw [List.take_of_length_le (Nat.le_refl _)] at hlb hB hM
              refine EW.thenExit ?_
              refine EW.thenExit ?_
              refine EW.inHere ?_
              refine EW.next ?_
              refine CW.seq ?_
              refine CW.rseq ?_  -- region 21
              refine WL.op (by decide) (FA33_7 rfl) ?_  -- msg.go:128 t87 := (Op.fieldAddr 33 t1 7)
              refine WL.op (by decide) (R.load Tryd.underlying31 rfl rfl (cell_at hBm rfl)) ?_  -- msg.go:128 t88 := (Op.load 31 t87)
              refine WL.op (by decide) (R.lenSlice rfl Tryd.underlying31 rfl) ?_  -- msg.go:128 t89 := (Op.call (Call.mk (Callee.builtin Builtin.len) [t88] [31]))
              refine WL.op (by decide) (R.move rfl) ?_  -- msg.go:128 t90 := (Op.move c(Value.int IntKind.i64 0))
              refine WL.next ?_
              refine CW.block ?_
              refine CW.loopK [1, 6, 88, 89, 90] (fun k l wr => ∃ (j : Nat) (jj : Int) (v : Value), j + k = m.auth.length ∧ jj = (j : Int) ∧ l = [(1, .pointer (some ⟨bm, 0, none⟩)), (6, .pointer (some ⟨wb, 0, none⟩)), (88, .slice Ab m.auth.length cb), (89, .int .i64 m.auth.length), (90, .int .i64 jj)] ∧ WSt wr wb mb base v (wrRecs (m.auth.take j) (wrRecs m.ans st1)) ∧ Chg (fun _ => False) w wr ∧ base ≤ wr.heap.size ∧ wr.heap[bm]? = some (.cells (m.cells (.slice Aa m.ans.length ca) (.slice Ab m.auth.length cb)).toArray 33 (0, 0)) ∧ (wrRecs (m.auth.take j) (wrRecs m.ans st1)).1.length ≤ (wrRecs m.ans st1).1.length + j * 400000) (m.auth.length) ?_ ?_
              · exact ⟨0, 0, _, by omega, rfl, rfl, ⟨hW, hB, hM⟩, hC, hgt, hBm, by show (wrRecs m.ans st1).1.length ≤ _; omega⟩
              · rintro k l wr ⟨j, jj, v, hjk, rfl, rfl, ⟨hW, hB, hM⟩, hC, hgt, hBm, hlb⟩
                refine CW.rseq ?_  -- region 22
                refine WL.lssS (by decide) rfl rfl (fun h4 => ?_) (fun h4 => ?_)  -- msg.go:128 t91 := (Op.binOp BinOp.lss 3 t90 t89 3)
                · skip
                  refine WL.next ?_
                  refine CW.seq ?_
                  refine CW.condT rfl ?_
                  refine CW.skip ?_
                  refine EW.next ?_
                  refine CW.seq ?_
                  refine CW.block ?_
                  refine CW.rseq ?_  -- region 23
                  obtain ⟨x, hx⟩ : ∃ x, m.auth[j]? = some x := ⟨m.auth[j]'(by omega), List.getElem?_eq_getElem _⟩
                  have hsl := hvb.kept hC (fun _ _ h => h)
                  obtain ⟨hx16, _, g, o, rfl, hcell⟩ := hsl.at hx
                  obtain ⟨hx1, hx2, hx3⟩ := hsm x (List.mem_append_right _ (List.mem_of_getElem? hx))
                  refine WL.op (by decide) (R.indexAddr1 (i := j) Tryd.underlying31 sz57 rfl rfl rfl (by omega)) ?_
                  refine WL.op (by decide) (R.loadR hx16 rfl hcell) ?_  -- msg.go:128 t93 := (Op.load 57 t92)
                  refine WL.eff rfl (OP.allocR (by decide) ?_)
                  intro w3 hc3 hs3 hb3
                  refine WL.eff rfl (OP.storeR rfl rfl hx16 (by rfl) hb3 ?_)
                  intro w4 hc4 hs4 hb4
                  have hc34 : Chg (fun _ => False) wr w4 := hc3.then hc4 (fun k hk e => by omega)
                  have hW := hc34.at hW (fun h => h)
                  have hB := hB.kept hc34 (fun _ _ h => h)
                  have hM := hM.kept hc34 (fun h => h)
                  have hBm := hc34.at hBm (fun h => h)
                  have hC := hC.trans hc34
                  have hgt := Nat.le_trans hgt hc34.size
                  refine WL.next ?_
                  refine CW.region ?_  -- region 24
                  refine WL.op (by decide) (R.move rfl) ?_  -- msg.go:129 t94 := (Op.move t6)
                  refine WL.op (by decide) (R.loadRB hx16 rfl hb4) ?_  -- msg.go:129 t95 := (Op.load 57 t12)
                  have hwl := wrRec_length x (wrRecs (m.auth.take j) (wrRecs m.ans st1)) hx16
                  refine WL.eff rfl (OP.call (by decide) Tryd.func44 (by kernel_rfl) (by kernel_rfl) rfl (wrec_any wb mb base _ _ x w4 ⟨hW, hB, hM⟩ hx16 (by omega) (by omega) (by omega) hgt (by omega) hx1 hx2 hx3) ?_)
                  rintro ed w5 ⟨rfl, v2, hW2, hc5, hown⟩
                  refine ⟨_, rfl, ?_⟩
                  have hBm := hc5.at hBm (fun e => by rcases e with e | e | e <;> first | omega | (have := hB.lt _ e.symm; omega))
                  have hC := hC.then hc5 (fun k hk e => by rcases e with e | e | e <;> first | omega | (have := hB.lt _ e.symm; omega))
                  have hgt := Nat.le_trans hgt hc5.size
                  refine WL.nil ?_
                  refine EW.inNormal ?_
                  refine EW.next ?_
                  refine CW.region ?_  -- region 25
                  refine WL.op (by decide) (R.add rfl rfl (by omega)) ?_  -- msg.go:128 t97 := (Op.binOp BinOp.add 3 t90 c(Value.int IntKind.i64 1) 3)
                  refine WL.op (by decide) (R.move rfl) ?_  -- msg.go:128 t90 := (Op.move t97)
                  refine WL.nil ?_
                  exact EW.roundK [1, 6, 88, 89, 90] (k - 1) (by omega) ⟨j + 1, _, _, by omega, by omega, rfl, by rw [wrRecs_take hx]; exact hW2, hC, hgt, hBm, by rw [wrRecs_take hx]; omega⟩
                · skip
                  refine WL.next ?_
                  refine CW.seq ?_
                  refine CW.condF rfl ?_
                  refine CW.exit ?_
                  obtain rfl : j = m.auth.length := by omega
                  rw [List.take_of_length_le (Nat.le_refl _)] at hlb hB hM
                  refine EW.thenExit ?_
                  refine EW.thenExit ?_
                  refine EW.inHere ?_
                  refine EW.next ?_
                  refine CW.rseq ?_  -- region 26
                  refine WL.op (by decide) (R.move rfl) ?_  -- msg.go:131 t98 := (Op.move t6)
                  refine WL.op (by decide) (R.nilCheck rfl) ?_  -- msg.go:131 t99 := (Op.nilCheck t98)
                  refine WL.op (by decide) (FA93_0 rfl) ?_  -- msg.go:131 t100 := (Op.fieldAddr 93 t99 0)
                  refine WL.op (by decide) (R.load Tryd.underlying36 rfl rfl (cell_at hW rfl)) ?_  -- msg.go:131 t101 := (Op.load 36 t100)
                  refine WL.op (by decide) (R.assign rfl) ?_  -- msg.go:131 t2 := (Op.assign t101)
                  refine WL.next ?_
                  refine CW.ret ?_
                  exact EW.ret1 (.inl rfl) rfl rfl ⟨_, rfl, by rw [enc_eq hst1]; exact hB.mono (by omega), hC⟩
end Go.Proofs.YthcpjcgjmdfpjaaDoor
