/- Words, contracts and walks that several statements share (WordsRec): RecOps. -/
import Derived.Test.YthcpjcgjmdfpjaaDoorCoreE
namespace Go.Proofs.YthcpjcgjmdfpjaaDoor
open Go Go.RowKit
set_option maxRecDepth 100000

section
variable {l : Env} {n d : Nat} {w : World} {Q : Exit → Act → World → Prop} {M : Env → World → Prop} {t ty : TypeId} {pos : String} {af : Array Edge} {x y : Operand} {b o : Nat} {r : Rec}
abbrev BR (w : World) (b : Nat) (r : Rec) : Prop := w.heap[b]? = some (.cells r.cells.toArray 57 (0, 0))
theorem Rec.set1 (r : Rec) (x : Int) : r.cells.toArray.setIfInBounds 1 (.int .i64 x) = ({ r with type := x } : Rec).cells.toArray := by simp [Rec.cells]
theorem OP.storeRType {v : Int} (hx : ev l x = some (.pointer (some ⟨b, 1, none⟩))) (hy : ev l y = some (.int .i64 v)) (hb : BR w b r)
    (h : ∀ w', Chg (fun k => k = b) w w' → w'.heap.size = w.heap.size → BR w' b { r with type := v } → M l w') :
    OP Tryd.prog Q ⟨none, .store 3 x y, ty, pos, af, none⟩ n l w M :=
  OP.store1 sz3 hx hy rfl rfl hb (by simp [Rec.cells]) rfl (fun w' h1 h2 h3 => h w' h1 h2 (by rw [Rec.set1] at h3; exact h3))
theorem OP.storeRText {v : List UInt8} (h16 : r.addr.length = 16) (hx : ev l x = some (.pointer (some ⟨b, 19, none⟩))) (hy : ev l y = some (sv v)) (hb : BR w b r)
    (h : ∀ w', Chg (fun k => k = b) w w' → w'.heap.size = w.heap.size → BR w' b { r with text := v } → M l w') :
    OP Tryd.prog Q ⟨none, .store 9 x y, ty, pos, af, none⟩ n l w M :=
  OP.store1 sz9 hx hy rfl rfl hb (by rw [List.size_toArray, Rec.length h16]; decide) rfl (fun w' h1 h2 h3 => h w' h1 h2 (by rw [Rec.set19 h16] at h3; exact h3))
theorem OP.storeRData {v : List UInt8} (h16 : r.addr.length = 16) (hx : ev l x = some (.pointer (some ⟨b, 20, none⟩))) (hy : ev l y = some (sv v)) (hb : BR w b r)
    (h : ∀ w', Chg (fun k => k = b) w w' → w'.heap.size = w.heap.size → BR w' b { r with data := v } → M l w') :
    OP Tryd.prog Q ⟨none, .store 9 x y, ty, pos, af, none⟩ n l w M :=
  OP.store1 sz9 hx hy rfl rfl hb (by rw [List.size_toArray, Rec.length h16]; decide) rfl (fun w' h1 h2 h3 => h w' h1 h2 (by rw [Rec.set20 h16] at h3; exact h3))
theorem OP.storeRAddr {a : List UInt8} (h16 : r.addr.length = 16) (ha : a.length = 16) (hx : ev l x = some (.pointer (some ⟨b, 3, none⟩))) (hy : ev l y = some (.agg (a.map u8v).toArray)) (hb : BR w b r)
    (h : ∀ w', Chg (fun k => k = b) w w' → w'.heap.size = w.heap.size → BR w' b { r with addr := a } → M l w') :
    OP Tryd.prog Q ⟨none, .store 27 x y, ty, pos, af, none⟩ n l w M :=
  OP.storeAt sz27 (by rw [List.size_toArray, List.length_map, ha]) hx hy (u8_all a) hb (by rw [List.size_toArray, Rec.length h16]; decide) (fun w' h1 h2 h3 => h w' h1 h2 (by
    have e := Rec.setAddr h16 ha
    rw [e] at h3; exact h3))
/-- 's[:n]' of a string. -/
theorem R.sliceHiN {s : List UInt8} {hi : Nat} {k : IntKind} (hx : ev l x = some (sv s)) (hy : ev l y = some (.int k (hi : Int))) (h2 : hi ≤ s.length) : Runs Tryd.prog l (.slice 9 x none (some y) none) w (sv (s.take hi)) w := fun r _ _ _ _ _ he => by
  unfold sv at hx
  have hb1 : (Instr.sliceBound (.int k (hi : Int)) s.length .sliceAlen).run Tryd.prog w = .ok hi w := by
    have := run_sliceBound (P := Tryd.prog) (w := w) k (hi : Int) s.length .sliceAlen (by omega) (by omega)
    simpa using this
  have hbs : (Instr.sliceBounds false s.length s.length none (some (.int k (hi : Int))) none).run Tryd.prog w = .ok (0, hi, s.length) w := by
    simp [Instr.sliceBounds, hb1]
  have hsl : (Instr.slice 9 (.string ⟨s.toArray⟩) none (some (.int k (hi : Int))) none).run Tryd.prog w = .ok (.string ((⟨s.toArray⟩ : ByteArray).extract 0 hi)) w := by
    simp only [Instr.slice, Sem.run_bind, run_underlying Tryd.underlying9, Result.andThen_ok, Option.isSome_none, Bool.false_eq_true, if_false, sv_size, hbs, Sem.run_pure]
  have hext : (⟨s.toArray⟩ : ByteArray).extract 0 hi = ⟨(s.take hi).toArray⟩ := by
    apply ByteArray.ext
    simp only [ByteArray.data_extract]
    apply Array.ext'
    simp [List.extract]
  rw [hext] at hsl
  have hat : (Instr.sliceAt 9 (.string ⟨s.toArray⟩) none (some (.int k (hi : Int))) none).run Tryd.prog w = .ok (sv (s.take hi)) w := by
    have := run_sliceAt_string (P := Tryd.prog) (w := w) 9 (.string ⟨s.toArray⟩) none (some (.int k (hi : Int))) none Tryd.underlying9
    exact this.trans hsl
  simp only [execOp, he x _ hx, Option.map_some, Option.map_none, he y _ hy, Sem.run_bind, hat, Result.andThen_ok]
  rfl
theorem R.sliceHi {s : List UInt8} {k : IntKind} (hx : ev l x = some (sv s)) (hy : ev l y = some (.int k (if (255 : Int) < (s.length : Int) then 255 else (s.length : Int)))) : Runs Tryd.prog l (.slice 9 x none (some y) none) w (sv (s.take 255)) w := by
  obtain ⟨hi, hhi⟩ : ∃ hi : Nat, (if (255 : Int) < (s.length : Int) then 255 else (s.length : Int)) = (hi : Int) := by
    by_cases h : (255 : Int) < (s.length : Int)
    · exact ⟨255, by rw [if_pos h]; rfl⟩
    · exact ⟨s.length, by rw [if_neg h]⟩
  have hle : hi ≤ s.length ∧ s.take hi = s.take 255 := by
    by_cases h : (255 : Int) < (s.length : Int)
    · rw [if_pos h] at hhi
      have : hi = 255 := by omega
      subst this; exact ⟨by omega, rfl⟩
    · rw [if_neg h] at hhi
      have : hi = s.length := by omega
      subst this; exact ⟨Nat.le_refl _, by rw [List.take_of_length_le (Nat.le_refl _), List.take_of_length_le (by omega)]⟩
  rw [hhi] at hy
  rw [← hle.2]
  exact R.sliceHiN hx hy hle.1
end
end Go.Proofs.YthcpjcgjmdfpjaaDoor
