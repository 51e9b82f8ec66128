/- Closed facts on this seat's program, each once for all rows: the words of its head. -/
import Derived.Test.YthcpjcgjmdfpjaaDoorRows
import Derived.JoinedOf
import Derived.SevenTiedAt
namespace Go.Proofs.YthcpjcgjmdfpjaaDoor
open Go
set_option maxRecDepth 100000
/-- The head's signs. -/
def headCodes : List Nat := [104, 97, 114, 110, 101, 115, 115, 32, 54, 97, 102, 97, 49, 52, 52, 48, 57, 99, 49, 102, 99, 102, 55, 56, 52, 101, 49, 53, 57, 100, 51, 100, 100, 57, 97, 102, 57, 101, 48, 97, 102, 54, 102, 99, 48, 55, 97, 51, 100, 51, 101, 48, 54, 97, 97, 50, 99, 56, 98, 52, 99, 53, 55, 55, 57, 53, 49, 99, 97, 53, 49, 55, 32, 99, 117, 116, 32, 97, 116, 32, 110, 111, 109, 101, 110, 99, 108, 97, 116, 111, 114, 47, 110, 111, 109, 101, 110, 99, 108, 97, 116, 111, 114, 108, 97, 119, 49, 51, 46, 84, 114, 97, 110, 115, 77, 97, 116, 99, 104, 101, 115, 32, 110, 111, 109, 101, 110, 99, 108, 97, 116, 111, 114, 47, 110, 111, 109, 101, 110, 99, 108, 97, 116, 111, 114, 108, 97, 119, 49, 51, 46, 84, 114, 97, 110, 115, 68, 114, 97, 119, 115, 32, 110, 111, 109, 101, 110, 99, 108, 97, 116, 111, 114, 47, 110, 111, 109, 101, 110, 99, 108, 97, 116, 111, 114, 108, 97, 119, 49, 51, 46, 84, 114, 97, 110, 115, 74, 117, 110, 107, 32, 110, 111, 109, 101, 110, 99, 108, 97, 116, 111, 114, 47, 110, 111, 109, 101, 110, 99, 108, 97, 116, 111, 114, 108, 97, 119, 49, 51, 46, 84, 114, 97, 110, 115, 76, 111, 110, 103, 32, 110, 111, 109, 101, 110, 99, 108, 97, 116, 111, 114, 47, 110, 111, 109, 101, 110, 99, 108, 97, 116, 111, 114, 108, 97, 119, 48, 52, 46, 77, 115, 103, 74, 117, 110, 107, 32, 110, 111, 109, 101, 110, 99, 108, 97, 116, 111, 114, 47, 110, 111, 109, 101, 110, 99, 108, 97, 116, 111, 114, 108, 97, 119, 49, 51, 46, 84, 114, 97, 110, 115, 79, 116, 104, 101, 114, 115, 32, 110, 111, 109, 101, 110, 99, 108, 97, 116, 111, 114, 47, 110, 111, 109, 101, 110, 99, 108, 97, 116, 111, 114, 108, 97, 119, 48, 52, 46, 77, 115, 103, 67, 111, 117, 110, 116, 115, 32, 110, 111, 109, 101, 110, 99, 108, 97, 116, 111, 114, 47, 110, 111, 109, 101, 110, 99, 108, 97, 116, 111, 114, 108, 97, 119, 49, 51, 46, 84, 114, 97, 110, 115, 83, 101, 110, 100, 115, 32, 110, 111, 109, 101, 110, 99, 108, 97, 116, 111, 114, 47, 110, 111, 109, 101, 110, 99, 108, 97, 116, 111, 114, 108, 97, 119, 49, 52, 46, 76, 108, 109, 110, 114, 65, 110, 115, 119, 101, 114, 115, 32, 110, 111, 109, 101, 110, 99, 108, 97, 116, 111, 114, 47, 110, 111, 109, 101, 110, 99, 108, 97, 116, 111, 114, 108, 97, 119, 49, 52, 46, 76, 108, 109, 110, 114, 79, 110, 99, 101, 32, 110, 111, 109, 101, 110, 99, 108, 97, 116, 111, 114, 47, 110, 111, 109, 101, 110, 99, 108, 97, 116, 111, 114, 108, 97, 119, 49, 52, 46, 76, 108, 109, 110, 114, 84, 121, 112, 101, 115, 32, 110, 111, 109, 101, 110, 99, 108, 97, 116, 111, 114, 47, 110, 111, 109, 101, 110, 99, 108, 97, 116, 111, 114, 108, 97, 119, 48, 52, 46, 77, 115, 103, 66, 97, 99, 107, 32, 110, 111, 109, 101, 110, 99, 108, 97, 116, 111, 114, 47, 110, 111, 109, 101, 110, 99, 108, 97, 116, 111, 114, 108, 97, 119, 48, 52, 46, 77, 115, 103, 65, 110, 121, 32, 110, 111, 109, 101, 110, 99, 108, 97, 116, 111, 114, 47, 110, 111, 109, 101, 110, 99, 108, 97, 116, 111, 114, 108, 97, 119, 48, 52, 46, 77, 115, 103, 82, 105, 103, 104, 116, 32, 110, 111, 109, 101, 110, 99, 108, 97, 116, 111, 114, 47, 110, 111, 109, 101, 110, 99, 108, 97, 116, 111, 114, 108, 97, 119, 48, 52, 46, 77, 115, 103, 80, 108, 97, 99, 101, 115, 32, 110, 111, 109, 101, 110, 99, 108, 97, 116, 111, 114, 47, 110, 111, 109, 101, 110, 99, 108, 97, 116, 111, 114, 108, 97, 119, 48, 52, 46, 77, 115, 103, 72, 101, 97, 100, 115, 32, 110, 111, 109, 101, 110, 99, 108, 97, 116, 111, 114, 47, 110, 111, 109, 101, 110, 99, 108, 97, 116, 111, 114, 108, 97, 119, 48, 52, 46, 77, 115, 103, 67, 97, 112, 105, 116, 97, 108, 115, 32, 110, 111, 109, 101, 110, 99, 108, 97, 116, 111, 114, 47, 110, 111, 109, 101, 110, 99, 108, 97, 116, 111, 114, 108, 97, 119, 48, 52, 46, 77, 115, 103, 77, 111, 114, 101]
theorem seat_head : Tryd.prog.initOrder = String.ofList (headCodes.map Char.ofNat) := by kernel_rfl
theorem seat_signs : Tryd.prog.initOrder.toList = headCodes.map Char.ofNat :=
  (congrArg String.toList seat_head).trans String.toList_ofList
/-- Its words, behind the first two. -/
def headRest : List (List Char) := (wordsSigns (headCodes.map Char.ofNat)).drop 3
def cutSigns : List Char := ([99, 117, 116].map Char.ofNat)
def sumSigns : List Char := ([54, 97, 102, 97, 49, 52, 52, 48, 57, 99, 49, 102, 99, 102, 55, 56, 52, 101, 49, 53, 57, 100, 51, 100, 100, 57, 97, 102, 57, 101, 48, 97, 102, 54, 102, 99, 48, 55, 97, 51, 100, 51, 101, 48, 54, 97, 97, 50, 99, 56, 98, 52, 99, 53, 55, 55, 57, 53, 49, 99, 97, 53, 49, 55].map Char.ofNat)
theorem seat_words : wordsSigns Tryd.prog.initOrder.toList = ([104, 97, 114, 110, 101, 115, 115].map Char.ofNat) :: sumSigns :: cutSigns :: headRest :=
  (congrArg wordsSigns seat_signs).trans (by kernel_rfl)
theorem sum_ok : isSumSigns sumSigns = true := by kernel_rfl

section
variable {P : Program} {h s c : List Char} {rest : List (List Char)}
theorem behind_of (hw : wordsSigns P.initOrder.toList = h :: s :: c :: rest) (h1 : (h == "harness".toList) = true) (h2 : isSumSigns s = true) : behindMainWord (wordsSigns P.initOrder.toList) = c :: rest := by
  rw [hw]
  unfold behindMainWord
  simp only [h1, h2, Bool.true_or, Bool.and_self, if_true]
theorem make_of (hb : behindMainWord (wordsSigns P.initOrder.toList) = c :: rest) (h1 : (c == "gc".toList || c == "spec".toList) = false) (h2 : (c == "cut".toList) = true) : P.make = some .cut := by
  unfold Program.make
  rw [hb]
  simp only [h1, h2]
  rfl
theorem lifts_of (hb : behindMainWord (wordsSigns P.initOrder.toList) = c :: rest) (h1 : (c == "carried".toList) = false) (h3 : stripLifts liftWords (c :: rest) = ([], c :: rest)) : P.liftsFinal = false := by
  have hl : P.headLifts = [] := by
    unfold Program.headLifts
    rw [hb, h3]
    simp only
    split <;> rfl
  unfold Program.liftsFinal
  rw [hb, hl]
  simp only [List.head?_cons, List.contains_nil, Bool.or_false]
  have : (some c == some "carried".toList) = false := h1
  rw [this]; rfl
theorem enter_of (hb : behindMainWord (wordsSigns P.initOrder.toList) = c :: rest) (h2 : (c == "cut".toList) = true) (h3 : stripLifts liftWords (c :: rest) = ([], c :: rest)) (hl : P.laysLater = false) (hr : P.bearsReflect = false) (hd : P.doorFits [] = true) : P.mayEnter = true := by
  have : (some c == some "cut".toList) = true := h2
  unfold Program.mayEnter
  rw [hb]
  simp only [h3, List.head?_cons, this, hl, hr, hd]
  simp
theorem main_of (hw : wordsSigns P.initOrder.toList = h :: s :: rest) (h1 : (h == "harness".toList) = true) (h2 : isSumSigns s = true) : P.mainIs = some (true, s) := by
  unfold Program.mainIs
  rw [hw]
  simp only [h1, h2]
  rfl
end
theorem seat_behind : behindMainWord (wordsSigns Tryd.prog.initOrder.toList) = cutSigns :: headRest := behind_of seat_words (by kernel_rfl) sum_ok
theorem seat_strip : stripLifts liftWords (cutSigns :: headRest) = ([], cutSigns :: headRest) := by kernel_rfl
theorem seat_make : Tryd.prog.make = some .cut := make_of seat_behind (by kernel_rfl) (by kernel_rfl)
theorem seat_lifts : Tryd.prog.liftsFinal = false := lifts_of seat_behind (by kernel_rfl) seat_strip
theorem seat_mayEnter : Tryd.prog.mayEnter = true := enter_of seat_behind (by kernel_rfl) seat_strip (by kernel_rfl) (by kernel_rfl) (by kernel_rfl)
theorem seat_sum : "6afa14409c1fcf784e159d3dd9af9e0af6fc07a3d3e06aa2c8b4c577951ca517".toList = sumSigns := by kernel_rfl
theorem seat_main : Tryd.prog.mainIs = some (true, "6afa14409c1fcf784e159d3dd9af9e0af6fc07a3d3e06aa2c8b4c577951ca517".toList) := by
  rw [seat_sum]; exact main_of seat_words (by kernel_rfl) sum_ok
end Go.Proofs.YthcpjcgjmdfpjaaDoor
