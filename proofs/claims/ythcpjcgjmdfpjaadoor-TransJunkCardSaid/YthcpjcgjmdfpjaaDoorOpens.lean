/- The arguments of the laws, opened: bytes. -/
import Derived.Test.YthcpjcgjmdfpjaaDoorRowLaw
import Derived.Test.YthcpjcgjmdfpjaaDoorReader
import Derived.ChangeSlices
namespace Go.Proofs.YthcpjcgjmdfpjaaDoor
open Go Go.ChangeShapes Go.WideShapes Go.ChangeAt Go.RowKit
set_option maxRecDepth 100000

theorem u8_of {n : Int} (h : (Lit.int .u8 n).wf = true) : 0 ≤ n ∧ n < 256 := by
  have h1 : decide (IntKind.u8.min ≤ n) && decide (n ≤ IntKind.u8.max) = true := by first | exact h | (simp [Lit.wf] at h ⊢; exact h)
  simp only [Bool.and_eq_true, decide_eq_true_eq] at h1
  have e1 : IntKind.u8.min = 0 := by kernel_rfl
  have e2 : IntKind.u8.max = 255 := by kernel_rfl
  omega
theorem open_bytes {H : Type} {enc : TypeId × Value → H} {W : World} {base : Nat} {v : Value} {d : DataW H} {p : List MemPlace} (hval : Value.okWide Tryd.prog W .any base 36 v) (hd : DataW.Trod enc Tryd.prog W 0 (fun _ => true) true 36 v d p) :
    ∃ A m c bs, v = .slice A m c ∧ Src W A m c bs ∧ (∀ g o, A = some ⟨g, o, none⟩ → g < W.heap.size) := by
  obtain ⟨a0, len, cap, rfl⟩ := okWide_slice Tryd.underlying36 hval
  obtain ⟨fuel, hf⟩ := hd
  rcases open_ints Tryd.underlying36 Tryd.underlying5 (by kernel_rfl) hf with ⟨h1, _⟩ | ⟨a, len', cap', zs, h1, _, hl, hm, hzl, _, hcell, hwf⟩
  · have h2 : (Value.slice a0 len cap).cells.toList = [.slice a0 len cap] := rfl
    rw [h2] at h1
    injection h1 with h1 _
    injection h1 with e1 e2 e3
    subst e1 e2 e3
    exact ⟨none, 0, 0, [], rfl, ⟨rfl, Nat.le_refl _, fun h => absurd rfl h⟩, fun g o h => by cases h⟩
  · have h2 : (Value.slice a0 len cap).cells.toList = [.slice a0 len cap] := rfl
    rw [h2] at h1
    injection h1 with h1 _
    injection h1 with e1 e2 e3
    subst e1 e2 e3
    simp only [if_true] at hzl
    refine ⟨some a, len, cap, (zs.take len).map fun z => UInt8.ofNat z.toNat, rfl, ⟨by simp [hzl]; omega, hl, fun h => ?_⟩, fun g o h => ?_⟩
    · have h0 := hcell 0 (by omega)
      obtain ⟨b, off, spot⟩ := a
      have hspot : spot = none := by simpa [Addr.add] using World.cell?_spot h0
      subst hspot
      refine ⟨b, off, rfl, fun j x hj => ?_⟩
      rw [List.getElem?_map] at hj
      obtain ⟨z, hz, rfl⟩ := Option.map_eq_some_iff.1 hj
      have hjl : j < len := by
        have := (List.getElem?_eq_some_iff.1 hz).1
        simp at this; omega
      rw [List.getElem?_take_of_lt hjl] at hz
      have hc := hcell j (by omega)
      have hw := u8_of (hwf z (List.mem_of_getElem? hz))
      have e : zs.getD j 0 = z := by rw [List.getD, hz]; rfl
      rw [e] at hc
      have e2 : u8v (UInt8.ofNat z.toNat) = .int .u8 z := by
        unfold u8v
        congr 1
        rw [UInt8.toNat_ofNat']
        omega
      rw [e2]
      have e3 : (⟨b, off, none⟩ : Addr).add j = ⟨b, off + j, none⟩ := by
        by_cases hj0 : j = 0 <;> simp [Addr.add, hj0]
      rw [e3] at hc
      exact hc
    · unfold Value.okWide at hval
      rw [Tryd.underlying36] at hval
      simp only [Cell.okWide, Tryd.underlying36, Cell.ok] at hval
      injection h with h
      subst h
      obtain ⟨_, _, _, _, row, cells, hsh, _⟩ := hval
      unfold World.shape? at hsh
      by_cases hlt : g < W.heap.size
      · exact hlt
      · rw [Array.getElem?_eq_none (Nat.le_of_not_lt hlt)] at hsh; cases hsh
end Go.Proofs.YthcpjcgjmdfpjaaDoor
