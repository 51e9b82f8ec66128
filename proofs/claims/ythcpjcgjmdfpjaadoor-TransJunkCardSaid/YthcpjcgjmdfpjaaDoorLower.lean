/- label.Lower. -/
import Derived.Test.YthcpjcgjmdfpjaaDoorStrs
import Derived.Test.YthcpjcgjmdfpjaaDoorSpec
namespace Go.Proofs.YthcpjcgjmdfpjaaDoor
open Go Go.RowKit
set_option maxRecDepth 100000

theorem low_up {s : List UInt8} {j : Nat} {c : UInt8} {zs : Array Value} (hc : s[j]? = some c) (hz : ∀ (k : Nat) (c : UInt8), (lowTo s j)[k]? = some c → zs[k]? = some (u8v c)) (h : low1 c = c + 32 ∧ (c + 32).toNat = c.toNat + 32) (hlt : j < zs.size) :
    ∀ (k : Nat) (d : UInt8), (lowTo s (j + 1))[k]? = some d → (zs.setIfInBounds (0 + j * 1) (.int .u8 ((c.toNat : Int) + 32)))[k]? = some (u8v d) := by
  intro k d hk
  rw [lowTo_succ hc, List.getElem?_set] at hk
  rw [Array.getElem?_setIfInBounds]
  by_cases e : j = k
  · subst e
    rw [if_pos rfl] at hk
    split at hk
    · obtain rfl := Option.some.inj hk
      rw [if_pos (by omega), if_pos (by omega)]
      unfold u8v; rw [h.1, h.2]; simp
    · cases hk
  · rw [if_neg e] at hk
    rw [if_neg (by omega)]
    exact hz k d hk
theorem low_same {s : List UInt8} {j : Nat} {c : UInt8} {zs : Array Value} (hc : s[j]? = some c) (hz : ∀ (k : Nat) (c : UInt8), (lowTo s j)[k]? = some c → zs[k]? = some (u8v c)) (h : low1 c = c) :
    ∀ (k : Nat) (d : UInt8), (lowTo s (j + 1))[k]? = some d → zs[k]? = some (u8v d) := by
  intro k d hk
  refine hz k d ?_
  rw [lowTo_succ hc, h, List.getElem?_set] at hk
  by_cases e : j = k
  · subst e
    rw [if_pos rfl] at hk
    split at hk
    · rw [lowTo_at hc]; exact hk
    · cases hk
  · rwa [if_neg e] at hk

theorem lower_any (s : List UInt8) (w : World) (hl : s.length ≤ 1099511627776) :
    Calls Tryd.prog 38 #[sv s] w fun e w' => e = .returned (sv (lower s)) ∧ Chg (fun _ => False) w w' := by
  refine calls_cw (args := [sv s]) Tryd.func38 rfl rfl ?_
  show CW _ _ _ 29 [(0, sv s)] w
  refine CW.rseq ?_  -- region 0
  refine WL.op (by decide) (R.assign rfl) ?_  -- label.go:7 t2 := (Op.assign c(Value.string (ByteArray.mk [])))
  refine WL.next ?_
  refine CW.rseq ?_  -- region 1
  refine WL.op (by decide) (R.move rfl) ?_  -- label.go:8 t6 := (Op.move t0)
  refine WL.eff rfl (OP.bytesOf (by decide) rfl ?_)
  intro w1 cap zs fr hc1 hs1 hle hfr hzs hz hb1
  refine WL.op (by decide) (R.assign rfl) ?_  -- label.go:8 t3 := (Op.assign t7)
  refine WL.next ?_
  refine CW.seq ?_
  refine CW.rseq ?_  -- region 2
  refine WL.op (by decide) (R.move rfl) ?_  -- label.go:9 t8 := (Op.move t3)
  refine WL.op (by decide) (R.lenSlice rfl Tryd.underlying36 rfl) ?_  -- label.go:9 t9 := (Op.call (Call.mk (Callee.builtin Builtin.len) [t8] [36]))
  refine WL.op (by decide) (R.move rfl) ?_  -- label.go:9 t10 := (Op.move c(Value.int IntKind.i64 0))
  refine WL.next ?_
  refine CW.block ?_
  refine CW.loopK [3, 8, 9, 10] (fun m l wr => ∃ (j : Nat) (i : Int) (zs : Array Value), j + m = s.length ∧ i = (j : Int) ∧ l = [(3, .slice (some ⟨w.heap.size, 0, none⟩) s.length cap), (8, .slice (some ⟨w.heap.size, 0, none⟩) s.length cap), (9, .int .i64 s.length), (10, .int .i64 i)] ∧ Chg (fun _ => False) w wr ∧ wr.heap[w.heap.size]? = some (.cells zs 5 (cap, cap + 1)) ∧ zs.size = cap ∧ ∀ (k : Nat) (c : UInt8), (lowTo s j)[k]? = some c → zs[k]? = some (u8v c)) (s.length) ?_ ?_
  · exact ⟨0, _, zs, by omega, rfl, rfl, hc1, hfr ▸ hb1, hzs, fun k c hk => hz k c (by rwa [lowTo_zero] at hk)⟩
  · rintro m l wr ⟨j, i, zs, hm, rfl, rfl, hC, hB, hzs, hz⟩
    have hF : (decide (cap ≤ 0 + j * 1) && decide (0 + j * 1 < cap + 1)) = false ∨ s.length ≤ j := by
      by_cases h : j < s.length
      · left; simp; omega
      · right; omega
    refine CW.rseq ?_  -- region 3
    refine WL.lssS (by decide) rfl rfl (fun h1 => ?_) (fun h1 => ?_)  -- label.go:9 t11 := (Op.binOp BinOp.lss 3 t10 t9 3)
    · skip
      refine WL.next ?_
      refine CW.seq ?_
      refine CW.condT rfl ?_
      refine CW.skip ?_
      refine EW.next ?_
      refine CW.seq ?_
      refine CW.block ?_
      refine CW.rseq ?_  -- region 4
      have hlt : j < s.length := by omega
      obtain ⟨c, hc⟩ : ∃ c, s[j]? = some c := ⟨s[j], List.getElem?_eq_getElem hlt⟩
      refine WL.op (by decide) (R.move rfl) ?_
      refine WL.op (by decide) (R.indexAddr1 Tryd.underlying36 sz5 rfl rfl rfl hlt) ?_  -- label.go:9 t13 := (Op.indexAddr 36 t8 t10)
      refine WL.op (by decide) (R.load Tryd.underlying5 rfl rfl (cell_at hB (by simpa using hz j c (lowTo_at hc)))) ?_  -- label.go:9 t14 := (Op.load 5 t13)
      refine WL.op (by decide) (R.assign rfl) ?_  -- label.go:9 t4 := (Op.assign t12)
      refine WL.op (by decide) (R.assign rfl) ?_  -- label.go:9 t5 := (Op.assign t14)
      refine WL.next ?_
      refine CW.rseq ?_  -- region 5
      refine WL.op (by decide) (R.move rfl) ?_  -- label.go:10 t15 := (Op.move t5)
      refine WL.geqS (by decide) rfl rfl (fun h2 => ?_) (fun h2 => ?_)  -- label.go:10 t16 := (Op.binOp BinOp.geq 5 t15 c(Value.int IntKind.u8 65) 5)
      · skip
        refine WL.op (by decide) (R.move rfl) ?_  -- label.go:10 t17 := (Op.move t16)
        refine WL.gop (by decide) rfl rfl rfl (R.move rfl) ?_  -- label.go:10 t18 := (Op.move t5) [guard 2 true]
        refine WL.gsplit _ (by decide) rfl rfl rfl (R.leqD rfl rfl) (fun h3 => ?_) (fun h3 => ?_)  -- label.go:10 t19 := (Op.binOp BinOp.leq 5 t18 c(Value.int IntKind.u8 90) 5) [guard 2 true]
        · skip
          refine WL.op (by decide) (R.pickT rfl rfl) ?_  -- label.go:10 t20 := (Op.pick t17 t19 c(Value.bool false))
          refine WL.next ?_
          refine CW.condT rfl ?_
          refine CW.region ?_  -- region 6
          refine WL.op (by decide) (R.move rfl) ?_  -- label.go:11 t21 := (Op.move t3)
          refine WL.op (by decide) (R.move rfl) ?_  -- label.go:11 t22 := (Op.move t4)
          refine WL.op (by decide) (R.move rfl) ?_  -- label.go:11 t23 := (Op.move t5)
          refine WL.op (by decide) (R.addu8 rfl rfl (by omega)) ?_  -- label.go:11 t24 := (Op.binOp BinOp.add 5 t23 c(Value.int IntKind.u8 32) 5)
          refine WL.op (by decide) (R.indexAddr1 Tryd.underlying36 sz5 rfl rfl rfl hlt) ?_  -- label.go:11 t25 := (Op.indexAddr 36 t21 t22)
          refine WL.eff rfl (OP.store1 sz5 rfl rfl rfl rfl hB (by omega) (hF.resolve_right (by omega)) ?_)
          intro w2 hc2 hs2 hb2
          refine WL.nil ?_
          refine EW.inNormal ?_
          refine EW.next ?_
          refine CW.region ?_  -- region 7
          refine WL.op (by decide) (R.add rfl rfl (by omega)) ?_  -- label.go:9 t26 := (Op.binOp BinOp.add 3 t10 c(Value.int IntKind.i64 1) 3)
          refine WL.op (by decide) (R.move rfl) ?_  -- label.go:9 t10 := (Op.move t26)
          refine WL.nil ?_
          refine EW.roundK [3, 8, 9, 10] (m - 1) (by omega) ⟨j + 1, _, _, by omega, by omega, rfl, hC.then hc2 (by intro k hk e; omega), hb2, by simp [hzs], low_up hc hz (low1_big (by omega) (by omega)) (by omega)⟩
        · skip
          refine WL.op (by decide) (R.pickT rfl rfl) ?_  -- label.go:10 t20 := (Op.pick t17 t19 c(Value.bool false))
          refine WL.next ?_
          refine CW.condF rfl ?_
          refine CW.skip ?_
          refine EW.inNormal ?_
          refine EW.next ?_
          refine CW.region ?_  -- region 7
          refine WL.op (by decide) (R.add rfl rfl (by omega)) ?_  -- label.go:9 t26 := (Op.binOp BinOp.add 3 t10 c(Value.int IntKind.i64 1) 3)
          refine WL.op (by decide) (R.move rfl) ?_  -- label.go:9 t10 := (Op.move t26)
          refine WL.nil ?_
          refine EW.roundK [3, 8, 9, 10] (m - 1) (by omega) ⟨j + 1, _, zs, by omega, by omega, rfl, hC, hB, hzs, low_same hc hz (low1_not (by omega))⟩
      · skip
        refine WL.op (by decide) (R.move rfl) ?_  -- label.go:10 t17 := (Op.move t16)
        refine WL.pass (by decide) rfl rfl rfl ?_  -- label.go:10 t18 := (Op.move t5) [guard 2 true]
        refine WL.pass (by decide) rfl rfl rfl ?_  -- label.go:10 t19 := (Op.binOp BinOp.leq 5 t18 c(Value.int IntKind.u8 90) 5) [guard 2 true]
        refine WL.op (by decide) (R.pickF rfl rfl) ?_  -- label.go:10 t20 := (Op.pick t17 t19 c(Value.bool false))
        refine WL.next ?_
        refine CW.condF rfl ?_
        refine CW.skip ?_
        refine EW.inNormal ?_
        refine EW.next ?_
        refine CW.region ?_  -- region 7
        refine WL.op (by decide) (R.add rfl rfl (by omega)) ?_  -- label.go:9 t26 := (Op.binOp BinOp.add 3 t10 c(Value.int IntKind.i64 1) 3)
        refine WL.op (by decide) (R.move rfl) ?_  -- label.go:9 t10 := (Op.move t26)
        refine WL.nil ?_
        refine EW.roundK [3, 8, 9, 10] (m - 1) (by omega) ⟨j + 1, _, zs, by omega, by omega, rfl, hC, hB, hzs, low_same hc hz (low1_not (by omega))⟩
    · skip
      refine WL.next ?_
      refine CW.seq ?_
      refine CW.condF rfl ?_
      refine CW.exit ?_
      refine EW.thenExit ?_
      refine EW.thenExit ?_
      refine EW.inHere ?_
      refine EW.next ?_
      refine CW.rseq ?_  -- region 8
      refine WL.op (by decide) (R.move rfl) ?_  -- label.go:14 t27 := (Op.move t3)
      refine WL.op (by decide) (R.strOf rfl (lower_length s) (fun k c hk => by rw [Nat.zero_add]; exact cell_at hB (hz k c (by rw [show j = s.length by omega, lowTo_all]; exact hk)))) ?_  -- label.go:14 t28 := (Op.convert 36 9 t27)
      refine WL.op (by decide) (R.assign rfl) ?_  -- label.go:14 t2 := (Op.assign t28)
      refine WL.next ?_
      refine CW.ret ?_
      refine EW.ret1 (.inl rfl) rfl rfl ⟨rfl, hC⟩
end Go.Proofs.YthcpjcgjmdfpjaaDoor
