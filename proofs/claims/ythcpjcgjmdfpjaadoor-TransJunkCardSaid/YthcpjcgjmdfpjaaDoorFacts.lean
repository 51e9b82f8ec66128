/- The addresses of this program's fields, the sizes of its types. -/
import Derived.Test.YthcpjcgjmdfpjaaDoorOps3
namespace Go.Proofs.YthcpjcgjmdfpjaaDoor
open Go Go.RowKit
set_option maxRecDepth 100000
section
variable {l : Env} {w : World} {x y : Operand} {v : Value} {b o : Nat}

theorem sz3 : (Tryd.prog.info? 3).map (·.size) = some 1 := by kernel_rfl
theorem sz4 : (Tryd.prog.info? 4).map (·.size) = some 1 := by kernel_rfl
theorem sz5 : (Tryd.prog.info? 5).map (·.size) = some 1 := by kernel_rfl
theorem sz9 : (Tryd.prog.info? 9).map (·.size) = some 1 := by kernel_rfl
theorem sz36 : (Tryd.prog.info? 36).map (·.size) = some 1 := by kernel_rfl
theorem sz91 : (Tryd.prog.info? 91).map (·.size) = some 1 := by kernel_rfl
theorem sz27 : (Tryd.prog.info? 27).map (·.size) = some 16 := by kernel_rfl
theorem sz26 : (Tryd.prog.info? 26).map (·.size) = some 16 := by kernel_rfl
theorem sz25 : (Tryd.prog.info? 25).map (·.size) = some 2 := by kernel_rfl
theorem sz31 : (Tryd.prog.info? 31).map (·.size) = some 1 := by kernel_rfl
theorem sz57 : (Tryd.prog.info? 57).map (·.size) = some 21 := by kernel_rfl
theorem sz33 : (Tryd.prog.info? 33).map (·.size) = some 9 := by kernel_rfl
theorem sz93 : (Tryd.prog.info? 93).map (·.size) = some 2 := by kernel_rfl
theorem sz100 : (Tryd.prog.info? 100).map (·.size) = some 3 := by kernel_rfl
theorem sz50 : (Tryd.prog.info? 50).map (·.size) = some 20 := by kernel_rfl
theorem sz29 : (Tryd.prog.info? 29).map (·.size) = some 25 := by kernel_rfl
theorem sz60 : (Tryd.prog.info? 60).map (·.size) = some 20 := by kernel_rfl
theorem sz70 : (Tryd.prog.info? 70).map (·.size) = some 18 := by kernel_rfl
theorem sz108 : (Tryd.prog.info? 108).map (·.size) = some 12 := by kernel_rfl
theorem sz102 : (Tryd.prog.info? 102).map (·.size) = some 4 := by kernel_rfl
theorem sz80 : (Tryd.prog.info? 80).map (·.size) = some 1 := by kernel_rfl
theorem sz44 : (Tryd.prog.info? 44).map (·.size) = some 1 := by kernel_rfl
theorem sz22 : (Tryd.prog.info? 22).map (·.size) = some 7 := by kernel_rfl
theorem sz64 : (Tryd.prog.info? 64).map (·.size) = some 3 := by kernel_rfl
theorem sz74 : (Tryd.prog.info? 74).map (·.size) = some 32 := by kernel_rfl
theorem sz63 : (Tryd.prog.info? 63).map (·.size) = some 1 := by kernel_rfl
theorem sz48 : (Tryd.prog.info? 48).map (·.size) = some 1 := by kernel_rfl
theorem sz65 : (Tryd.prog.info? 65).map (·.size) = some 1 := by kernel_rfl
theorem sz86 : (Tryd.prog.info? 86).map (·.size) = some 5 := by kernel_rfl
theorem sz87 : (Tryd.prog.info? 87).map (·.size) = some 5 := by kernel_rfl
theorem sz89 : (Tryd.prog.info? 89).map (·.size) = some 3 := by kernel_rfl
theorem sz94 : (Tryd.prog.info? 94).map (·.size) = some 6 := by kernel_rfl
theorem sz106 : (Tryd.prog.info? 106).map (·.size) = some 2 := by kernel_rfl
theorem sz49 : (Tryd.prog.info? 49).map (·.size) = some 20 := by kernel_rfl
theorem sz99 : (Tryd.prog.info? 99).map (·.size) = some 3 := by kernel_rfl

theorem inf_of {t s : Nat} (h : (Tryd.prog.info? t).map (·.size) = some s) : ∃ i, Tryd.prog.info? t = some i ∧ i.size = s := by
  obtain ⟨i, hi, hs⟩ := Option.map_eq_some_iff.1 h
  exact ⟨i, hi, hs⟩
theorem FA {t f off s : Nat} {fs : Array Field} {fd : Field} (ht : Tryd.prog.underlying t = some (.struct fs)) (hf : fs[f]? = some fd) (ho : fd.offset = off) (hs : (Tryd.prog.info? fd.type).map (·.size) = some (s + 1)) (hx : ev l x = some (.pointer (some ⟨b, o, none⟩))) :
    Runs Tryd.prog l (.fieldAddr t x f) w (.pointer (some ⟨b, o + off, none⟩)) w := by
  obtain ⟨i, hi, hz⟩ := inf_of hs
  exact R.fieldAddr ht hf ho hi (by omega) hx

theorem FA93_0 (hx : ev l x = some (.pointer (some ⟨b, o, none⟩))) : Runs Tryd.prog l (.fieldAddr 93 x 0) w (.pointer (some ⟨b, o + 0, none⟩)) w := FA Tryd.underlying93 rfl rfl sz36 hx
theorem FA93_1 (hx : ev l x = some (.pointer (some ⟨b, o, none⟩))) : Runs Tryd.prog l (.fieldAddr 93 x 1) w (.pointer (some ⟨b, o + 1, none⟩)) w := FA Tryd.underlying93 rfl rfl sz91 hx
theorem FA100_0 (hx : ev l x = some (.pointer (some ⟨b, o, none⟩))) : Runs Tryd.prog l (.fieldAddr 100 x 0) w (.pointer (some ⟨b, o + 0, none⟩)) w := FA Tryd.underlying100 rfl rfl sz36 hx
theorem FA100_1 (hx : ev l x = some (.pointer (some ⟨b, o, none⟩))) : Runs Tryd.prog l (.fieldAddr 100 x 1) w (.pointer (some ⟨b, o + 1, none⟩)) w := FA Tryd.underlying100 rfl rfl sz3 hx
theorem FA100_2 (hx : ev l x = some (.pointer (some ⟨b, o, none⟩))) : Runs Tryd.prog l (.fieldAddr 100 x 2) w (.pointer (some ⟨b, o + 2, none⟩)) w := FA Tryd.underlying100 rfl rfl sz4 hx
theorem FA57_0 (hx : ev l x = some (.pointer (some ⟨b, o, none⟩))) : Runs Tryd.prog l (.fieldAddr 57 x 0) w (.pointer (some ⟨b, o + 0, none⟩)) w := FA Tryd.underlying57 rfl rfl sz9 hx
theorem FA57_1 (hx : ev l x = some (.pointer (some ⟨b, o, none⟩))) : Runs Tryd.prog l (.fieldAddr 57 x 1) w (.pointer (some ⟨b, o + 1, none⟩)) w := FA Tryd.underlying57 rfl rfl sz3 hx
theorem FA57_2 (hx : ev l x = some (.pointer (some ⟨b, o, none⟩))) : Runs Tryd.prog l (.fieldAddr 57 x 2) w (.pointer (some ⟨b, o + 2, none⟩)) w := FA Tryd.underlying57 rfl rfl sz3 hx
theorem FA57_3 (hx : ev l x = some (.pointer (some ⟨b, o, none⟩))) : Runs Tryd.prog l (.fieldAddr 57 x 3) w (.pointer (some ⟨b, o + 3, none⟩)) w := FA Tryd.underlying57 rfl rfl sz27 hx
theorem FA57_4 (hx : ev l x = some (.pointer (some ⟨b, o, none⟩))) : Runs Tryd.prog l (.fieldAddr 57 x 4) w (.pointer (some ⟨b, o + 19, none⟩)) w := FA Tryd.underlying57 rfl rfl sz9 hx
theorem FA57_5 (hx : ev l x = some (.pointer (some ⟨b, o, none⟩))) : Runs Tryd.prog l (.fieldAddr 57 x 5) w (.pointer (some ⟨b, o + 20, none⟩)) w := FA Tryd.underlying57 rfl rfl sz9 hx
theorem FA33_0 (hx : ev l x = some (.pointer (some ⟨b, o, none⟩))) : Runs Tryd.prog l (.fieldAddr 33 x 0) w (.pointer (some ⟨b, o + 0, none⟩)) w := FA Tryd.underlying33 rfl rfl sz3 hx
theorem FA33_1 (hx : ev l x = some (.pointer (some ⟨b, o, none⟩))) : Runs Tryd.prog l (.fieldAddr 33 x 1) w (.pointer (some ⟨b, o + 1, none⟩)) w := FA Tryd.underlying33 rfl rfl sz4 hx
theorem FA33_2 (hx : ev l x = some (.pointer (some ⟨b, o, none⟩))) : Runs Tryd.prog l (.fieldAddr 33 x 2) w (.pointer (some ⟨b, o + 2, none⟩)) w := FA Tryd.underlying33 rfl rfl sz4 hx
theorem FA33_3 (hx : ev l x = some (.pointer (some ⟨b, o, none⟩))) : Runs Tryd.prog l (.fieldAddr 33 x 3) w (.pointer (some ⟨b, o + 3, none⟩)) w := FA Tryd.underlying33 rfl rfl sz4 hx
theorem FA33_4 (hx : ev l x = some (.pointer (some ⟨b, o, none⟩))) : Runs Tryd.prog l (.fieldAddr 33 x 4) w (.pointer (some ⟨b, o + 4, none⟩)) w := FA Tryd.underlying33 rfl rfl sz3 hx
theorem FA33_5 (hx : ev l x = some (.pointer (some ⟨b, o, none⟩))) : Runs Tryd.prog l (.fieldAddr 33 x 5) w (.pointer (some ⟨b, o + 5, none⟩)) w := FA Tryd.underlying33 rfl rfl sz25 hx
theorem FA33_6 (hx : ev l x = some (.pointer (some ⟨b, o, none⟩))) : Runs Tryd.prog l (.fieldAddr 33 x 6) w (.pointer (some ⟨b, o + 7, none⟩)) w := FA Tryd.underlying33 rfl rfl sz31 hx
theorem FA33_7 (hx : ev l x = some (.pointer (some ⟨b, o, none⟩))) : Runs Tryd.prog l (.fieldAddr 33 x 7) w (.pointer (some ⟨b, o + 8, none⟩)) w := FA Tryd.underlying33 rfl rfl sz31 hx
theorem FA25_0 (hx : ev l x = some (.pointer (some ⟨b, o, none⟩))) : Runs Tryd.prog l (.fieldAddr 25 x 0) w (.pointer (some ⟨b, o + 0, none⟩)) w := FA Tryd.underlying25 rfl rfl sz9 hx
theorem FA25_1 (hx : ev l x = some (.pointer (some ⟨b, o, none⟩))) : Runs Tryd.prog l (.fieldAddr 25 x 1) w (.pointer (some ⟨b, o + 1, none⟩)) w := FA Tryd.underlying25 rfl rfl sz3 hx
theorem FA50_0 (hx : ev l x = some (.pointer (some ⟨b, o, none⟩))) : Runs Tryd.prog l (.fieldAddr 50 x 0) w (.pointer (some ⟨b, o + 0, none⟩)) w := FA Tryd.underlying50 rfl rfl sz3 hx
theorem FA50_1 (hx : ev l x = some (.pointer (some ⟨b, o, none⟩))) : Runs Tryd.prog l (.fieldAddr 50 x 1) w (.pointer (some ⟨b, o + 1, none⟩)) w := FA Tryd.underlying50 rfl rfl sz3 hx
theorem FA50_2 (hx : ev l x = some (.pointer (some ⟨b, o, none⟩))) : Runs Tryd.prog l (.fieldAddr 50 x 2) w (.pointer (some ⟨b, o + 2, none⟩)) w := FA Tryd.underlying50 rfl rfl sz3 hx
theorem FA50_3 (hx : ev l x = some (.pointer (some ⟨b, o, none⟩))) : Runs Tryd.prog l (.fieldAddr 50 x 3) w (.pointer (some ⟨b, o + 3, none⟩)) w := FA Tryd.underlying50 rfl rfl sz27 hx
theorem FA50_4 (hx : ev l x = some (.pointer (some ⟨b, o, none⟩))) : Runs Tryd.prog l (.fieldAddr 50 x 4) w (.pointer (some ⟨b, o + 19, none⟩)) w := FA Tryd.underlying50 rfl rfl sz9 hx
theorem FA29_0 (hx : ev l x = some (.pointer (some ⟨b, o, none⟩))) : Runs Tryd.prog l (.fieldAddr 29 x 0) w (.pointer (some ⟨b, o + 0, none⟩)) w := FA Tryd.underlying29 rfl rfl sz25 hx
theorem FA29_1 (hx : ev l x = some (.pointer (some ⟨b, o, none⟩))) : Runs Tryd.prog l (.fieldAddr 29 x 1) w (.pointer (some ⟨b, o + 2, none⟩)) w := FA Tryd.underlying29 rfl rfl sz3 hx
theorem FA29_2 (hx : ev l x = some (.pointer (some ⟨b, o, none⟩))) : Runs Tryd.prog l (.fieldAddr 29 x 2) w (.pointer (some ⟨b, o + 3, none⟩)) w := FA Tryd.underlying29 rfl rfl sz3 hx
theorem FA29_3 (hx : ev l x = some (.pointer (some ⟨b, o, none⟩))) : Runs Tryd.prog l (.fieldAddr 29 x 3) w (.pointer (some ⟨b, o + 4, none⟩)) w := FA Tryd.underlying29 rfl rfl sz27 hx
theorem FA29_4 (hx : ev l x = some (.pointer (some ⟨b, o, none⟩))) : Runs Tryd.prog l (.fieldAddr 29 x 4) w (.pointer (some ⟨b, o + 20, none⟩)) w := FA Tryd.underlying29 rfl rfl sz3 hx
theorem FA29_5 (hx : ev l x = some (.pointer (some ⟨b, o, none⟩))) : Runs Tryd.prog l (.fieldAddr 29 x 5) w (.pointer (some ⟨b, o + 21, none⟩)) w := FA Tryd.underlying29 rfl rfl sz3 hx
theorem FA29_6 (hx : ev l x = some (.pointer (some ⟨b, o, none⟩))) : Runs Tryd.prog l (.fieldAddr 29 x 6) w (.pointer (some ⟨b, o + 22, none⟩)) w := FA Tryd.underlying29 rfl rfl sz4 hx
theorem FA29_7 (hx : ev l x = some (.pointer (some ⟨b, o, none⟩))) : Runs Tryd.prog l (.fieldAddr 29 x 7) w (.pointer (some ⟨b, o + 23, none⟩)) w := FA Tryd.underlying29 rfl rfl sz4 hx
theorem FA29_8 (hx : ev l x = some (.pointer (some ⟨b, o, none⟩))) : Runs Tryd.prog l (.fieldAddr 29 x 8) w (.pointer (some ⟨b, o + 24, none⟩)) w := FA Tryd.underlying29 rfl rfl sz3 hx
theorem FA60_0 (hx : ev l x = some (.pointer (some ⟨b, o, none⟩))) : Runs Tryd.prog l (.fieldAddr 60 x 0) w (.pointer (some ⟨b, o + 0, none⟩)) w := FA Tryd.underlying60 rfl rfl sz3 hx
theorem FA60_1 (hx : ev l x = some (.pointer (some ⟨b, o, none⟩))) : Runs Tryd.prog l (.fieldAddr 60 x 1) w (.pointer (some ⟨b, o + 1, none⟩)) w := FA Tryd.underlying60 rfl rfl sz27 hx
theorem FA60_2 (hx : ev l x = some (.pointer (some ⟨b, o, none⟩))) : Runs Tryd.prog l (.fieldAddr 60 x 2) w (.pointer (some ⟨b, o + 17, none⟩)) w := FA Tryd.underlying60 rfl rfl sz3 hx
theorem FA60_3 (hx : ev l x = some (.pointer (some ⟨b, o, none⟩))) : Runs Tryd.prog l (.fieldAddr 60 x 3) w (.pointer (some ⟨b, o + 18, none⟩)) w := FA Tryd.underlying60 rfl rfl sz4 hx
theorem FA60_4 (hx : ev l x = some (.pointer (some ⟨b, o, none⟩))) : Runs Tryd.prog l (.fieldAddr 60 x 4) w (.pointer (some ⟨b, o + 19, none⟩)) w := FA Tryd.underlying60 rfl rfl sz36 hx
theorem FA70_0 (hx : ev l x = some (.pointer (some ⟨b, o, none⟩))) : Runs Tryd.prog l (.fieldAddr 70 x 0) w (.pointer (some ⟨b, o + 0, none⟩)) w := FA Tryd.underlying70 rfl rfl sz27 hx
theorem FA70_1 (hx : ev l x = some (.pointer (some ⟨b, o, none⟩))) : Runs Tryd.prog l (.fieldAddr 70 x 1) w (.pointer (some ⟨b, o + 16, none⟩)) w := FA Tryd.underlying70 rfl rfl sz4 hx
theorem FA70_2 (hx : ev l x = some (.pointer (some ⟨b, o, none⟩))) : Runs Tryd.prog l (.fieldAddr 70 x 2) w (.pointer (some ⟨b, o + 17, none⟩)) w := FA Tryd.underlying70 rfl rfl sz4 hx

theorem wrap_u8 (a : Int) : IntKind.u8.wrap a = a % 256 := IntKind.wrap_u8 a
theorem R.conv35 {a : Int} (hx : ev l x = some (.int .i64 a)) : Runs Tryd.prog l (.convert 3 5 x) w (u8v (byteOf a)) w := by
  have := R.convInt (P := Tryd.prog) (w := w) Tryd.underlying3 Tryd.underlying5 hx (wrap_u8 a)
  unfold u8v; rw [byteOf_toNat]; exact this
theorem R.conv53 {c : UInt8} (hx : ev l x = some (u8v c)) : Runs Tryd.prog l (.convert 5 3 x) w (.int .i64 (c.toNat : Int)) w :=
  R.convInt (P := Tryd.prog) Tryd.underlying5 Tryd.underlying3 hx (IntWalk.i64_in _ (by have := c.toNat_lt; omega))
theorem R.extract {vs : Array Value} {i : Nat} {P : Program} (hx : ev l x = some (.tuple vs)) (hi : vs[i]? = some v) : Runs P l (.extract x i) w v w := fun r _ _ _ _ _ he => by
  simp [execOp, he x _ hx, Instr.extract, hi]

/-- A store of one cell, at a type of one cell. -/
theorem OP.store1 {t e ty : TypeId} {pos : String} {af : Array Edge} {n : Nat} {Q : Exit → Act → World → Prop} {M : Env → World → Prop} {cs : Array Value} {fr : Nat × Nat} (hs : (Tryd.prog.info? t).map (·.size) = some 1) (hx : ev l x = some (.pointer (some ⟨b, o, none⟩))) (hy : ev l y = some v) (h1 : v.oneCell' = true) (hv : v.cells = #[v])
    (hb : w.heap[b]? = some (.cells cs e fr)) (ho : o < cs.size) (hf : (decide (fr.1 ≤ o) && decide (o < fr.2)) = false)
    (h : ∀ w', Chg (fun k => k = b) w w' → w'.heap.size = w.heap.size → w'.heap[b]? = some (.cells (cs.setIfInBounds o v) e fr) → M l w') :
    OP Tryd.prog Q ⟨none, .store t x y, ty, pos, af, none⟩ n l w M := by
  obtain ⟨i, hi, hz⟩ := inf_of hs
  exact OP.store hi hz hx hy h1 hv hb ho hf h
theorem OP.alloc1 {t e : TypeId} {pos : String} {af : Array Edge} {n d : Nat} {Q : Exit → Act → World → Prop} {M : Env → World → Prop} (zv : Value) (hdn : d < n) (hz : (Tryd.prog.info? e).map (·.zero) = some (some zv))
    (h : ∀ w', Chg (fun _ => False) w w' → w'.heap.size = w.heap.size + 1 → w'.heap[w.heap.size]? = some (.cells zv.cells e (0, 0)) → M ((d, .pointer (some ⟨w.heap.size, 0, none⟩)) :: l) w') :
    OP Tryd.prog Q ⟨some d, .alloc e, t, pos, af, none⟩ n l w M := by
  obtain ⟨i, hi, hzz⟩ := Option.map_eq_some_iff.1 hz
  exact OP.alloc hdn hi hzz h
theorem R.loadAgg1 {t : TypeId} {d : TypeDesc} {cs : List Value} (ht : Tryd.prog.underlying t = some d) (hd : isAggD d = true) (hs : (Tryd.prog.info? t).map (·.size) = some cs.length)
    (hx : ev l x = some (.pointer (some ⟨b, o, none⟩))) (hc : ∀ j u, cs[j]? = some u → w.cell? ⟨b, o + j, none⟩ = some u) :
    Runs Tryd.prog l (.load t x) w (.agg cs.toArray) w := by
  obtain ⟨i, hi, hz⟩ := inf_of hs
  exact R.loadAgg ht hd hi hz hx hc
theorem R.indexAddr1 {t e : TypeId} {m c i sz : Nat} {k : IntKind} {j : Int} (ht : Tryd.prog.underlying t = some (.slice e)) (hs : (Tryd.prog.info? e).map (·.size) = some sz) (hx : ev l x = some (.slice (some ⟨b, o, none⟩) m c)) (hy : ev l y = some (.int k j)) (hj : j = (i : Int)) (hlt : i < m) :
    Runs Tryd.prog l (.indexAddr t x y) w (.pointer (some ⟨b, o + i * sz, none⟩)) w := by
  obtain ⟨f, hi, hz⟩ := inf_of hs
  exact R.indexAddr ht hi hz hx hy hj hlt
theorem buildSlice_u8 (c : UInt8) (w : World) : (Instr.buildSlice 36 1 #[(0, u8v c)]).run Tryd.prog w = .ok (.slice (some ⟨w.heap.size, 0, none⟩) 1 1) (w.alloc (.cells #[u8v c] 5)) := by kernel_rfl
theorem OP.buildSlice1 {t : TypeId} {pos : String} {af : Array Edge} {n d : Nat} {Q : Exit → Act → World → Prop} {M : Env → World → Prop} {c : UInt8} (hdn : d < n) (hx : ev l x = some (u8v c))
    (h : ∀ w', Chg (fun _ => False) w w' → w'.heap.size = w.heap.size + 1 → w'.heap[w.heap.size]? = some (.cells #[u8v c] 5 (0, 0)) → M ((d, .slice (some ⟨w.heap.size, 0, none⟩) 1 1) :: l) w') :
    OP Tryd.prog Q ⟨some d, .buildSlice 36 1 #[(0, x)], t, pos, af, none⟩ n l w M :=
  OP.buildSlice (parts := [(0, x)]) (vals := [(0, u8v c)]) hdn (by simp [evp, hx]) (buildSlice_u8 c) h
end
end Go.Proofs.YthcpjcgjmdfpjaaDoor
