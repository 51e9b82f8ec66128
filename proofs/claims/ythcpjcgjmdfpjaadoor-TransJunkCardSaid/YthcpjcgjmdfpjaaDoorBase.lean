/- Words that all walks of this seat use: bytes as cells, a buffer of bytes that the call owns, and what an append leaves of the rest of memory. -/
import Derived.Test.YthcpjcgjmdfpjaaDoorProg
import Derived.WalkKit
import Derived.KernelRfl
import Derived.Maps.AppendAt
import Derived.Deep.LoopGhost
namespace Go.Proofs.YthcpjcgjmdfpjaaDoor
open Go Go.RowKit

/-- A byte as a cell. -/
def u8v (b : UInt8) : Value := .int .u8 (b.toNat : Int)
/-- A string of bytes as a value. -/
def sv (l : List UInt8) : Value := .string ⟨l.toArray⟩

theorem sv_of (s : ByteArray) : Value.string s = sv s.data.toList := by
  unfold sv; rcases s with ⟨a⟩; simp

/-- The lowest byte of a number. -/
def byteOf (x : Int) : UInt8 := UInt8.ofNat (x % 256).toNat
theorem byteOf_toNat (x : Int) : ((byteOf x).toNat : Int) = x % 256 := by
  unfold byteOf
  have h1 : 0 ≤ x % 256 := by omega
  have h2 : x % 256 < 256 := by omega
  rw [UInt8.toNat_ofNat']
  omega

/-- A slice of bytes that the call owns. -/
def Buf (w : World) (base : Nat) (v : Value) (l : List UInt8) : Prop := w.ownsRow base 5 1 v l.length (l.map u8v)

theorem u8v_one (l : List UInt8) : ∀ u ∈ l.map u8v, u.oneCell' = true := by
  intro u hu
  obtain ⟨_, _, rfl⟩ := List.mem_map.1 hu
  rfl

/-- What an append, or several, leave: all old blocks but the slice's own are as they were; the new slice lies in the old one's block or in a new one. -/
structure Moved (w w' : World) (v v' : Value) : Prop where
  g : w.grownBy w' v.ownBlock
  at_ : v'.ownBlock = v.ownBlock ∨ ∃ k, v'.ownBlock = some k ∧ w.heap.size ≤ k

theorem Moved.refl (w : World) (v : Value) : Moved w w v v := ⟨World.grownBy.refl _ _, .inl rfl⟩
theorem Moved.trans {w w1 w2 : World} {v v1 v2 : Value} (h : Moved w w1 v v1) (k : Moved w1 w2 v1 v2) : Moved w w2 v v2 := by
  refine ⟨⟨k.g.os.trans h.g.os, k.g.tape.trans h.g.tape, k.g.output.trans h.g.output, Nat.le_trans h.g.size k.g.size, fun i hi hne => ?_⟩, ?_⟩
  · refine (k.g.block i (Nat.lt_of_lt_of_le hi h.g.size) ?_).trans (h.g.block i hi hne)
    rcases h.at_ with e | ⟨b, e, hb⟩
    · rw [e]; exact hne
    · rw [e]; intro e2; have := Option.some.inj e2; omega
  · rcases k.at_ with e | ⟨b, e, hb⟩
    · rcases h.at_ with e1 | ⟨b1, e1, hb1⟩
      · exact .inl (e.trans e1)
      · exact .inr ⟨b1, e.trans e1, hb1⟩
    · exact .inr ⟨b, e, Nat.le_trans h.g.size hb⟩
theorem Moved.alloc {w w1 : World} {v v1 : Value} (h : Moved w w1 v v1) (o : Obj) : Moved w (w1.alloc o) v v1 :=
  h.trans ⟨World.grownBy_alloc _ _ _, .inl rfl⟩
theorem Moved.drew {w w1 : World} {v v1 : Value} (h : Moved w w1 v v1) : Moved w w1.drew v v1 :=
  ⟨⟨h.g.os, h.g.tape, h.g.output, h.g.size, h.g.block⟩, h.at_⟩
theorem Moved.of_own {w w1 w2 : World} {v v1 v2 : Value} (h : Moved w w1 v v1) (hg : w1.grownBy w2 v1.ownBlock) (hat : v2.ownBlock = v1.ownBlock ∨ v2.ownBlock = some w1.heap.size) : Moved w w2 v v2 :=
  h.trans ⟨hg, hat.imp id (fun e => ⟨_, e, Nat.le_refl _⟩)⟩

theorem Tryd.info5 : (Tryd.prog.info? 5).map (fun i => (i.zero, i.size, i.bytes)) = some (some (.int .u8 0), 1, 1) := by kernel_rfl
theorem Tryd.info9 : (Tryd.prog.info? 9).map (fun i => (i.zero, i.size, i.bytes)) = some (some (.string ⟨#[]⟩), 1, 16) := by kernel_rfl

/-- A number's n lowest bytes, the highest first. -/
def beN : Nat → Int → List UInt8
  | 0, _ => []
  | n + 1, x => byteOf (x / 2 ^ (8 * n)) :: beN n x
theorem beN_length (n : Nat) (x : Int) : (beN n x).length = n := by induction n with
  | zero => rfl
  | succ n ih => simp [beN, ih]

end Go.Proofs.YthcpjcgjmdfpjaaDoor
