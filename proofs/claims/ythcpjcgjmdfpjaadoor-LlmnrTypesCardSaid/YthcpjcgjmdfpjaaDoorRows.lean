/-
  NARROWER THAN 'FOR EVERY INPUT', by the rows' own cells (each row's printed sentence says how): TransMatches: laid · TransDraws: laid · TransJunk: laid · TransLong: laid · MsgJunk: laid · TransOthers: laid · MsgCounts: laid · TransSends: laid · LlmnrAnswers: laid · LlmnrOnce: laid · LlmnrTypes: laid · MsgBack: laid · MsgAny: laid · MsgRight: laid · MsgPlaces: laid · MsgHeads: laid · MsgCapitals: laid · MsgMore: laid.
  DERIVED. THE GIVEN ROWS OF THIS SEAT. 18 by the template 'for every input the law returns true; each argument reads behind the call as it read before'; 0 by the template 'total and deterministic' (their statements: YthcpjcgjmdfpjaaDoorTotals.lean).
  GIVEN WITH THE SEED: the statements are not yours to turn. If you find one false, say at which input.
  Laid BY PROGRAM, IN A SANDBOX (cutbox-rows.mjs): the forced cells as the released guide's own fill.sh prints them over the translation 47332711bf3c3c41… (all of the seat's roots in one cut). By AI agents, Wed Nov 11 2026. No macro, syntax, notation, axiom, sorry.
-/
import Derived.Test.YthcpjcgjmdfpjaaDoorChecked
import GoSem.Claim
import GoSem.ClaimJoined
import GoSem.ClaimMapViews
import Derived.JoinedTies
import Derived.KernelRfl
namespace Go.Proofs.YthcpjcgjmdfpjaaDoor
/- THE CELL 'sum', in the pinned program and in every row, IS THE sha256 OF THE DUMP (.gsa) THAT YthcpjcgjmdfpjaaDoorProg.lean LOADS. Nothing in Lean hashes anything: it is a label: what it is worth is what the hold of that sum in a sandbox is worth. -/
noncomputable def Tryd.pinned : Pinned := { name := "ythcpjcgjmdfpjaadoor", sum := "47332711bf3c3c41072bd6b4c8b8955c014b413753da66ec16c3a194412a0432", checked := Tryd.checked }
namespace Rows
def none {H : Type} : Left H := { results := [], args := [] }

/- WHAT THE LISTED PACKAGE-LEVEL VARIABLES READ AS WHEN THE CALL BEGINS. Each datum BY PROGRAM (the guide's laid-datum.mjs) off the statement by which the dump's own 'gosem.cut.vars' lays the variable. In a bare row this is a premise. The card (YthcpjcgjmdfpjaaDoorCards.lean) ties it to the program's text. -/
def laid_nomenclator_msg_mapped {H : Type} : DataW H := .agg [.lit (.int .u8 0), .lit (.int .u8 0), .lit (.int .u8 0), .lit (.int .u8 0), .lit (.int .u8 0), .lit (.int .u8 0), .lit (.int .u8 0), .lit (.int .u8 0), .lit (.int .u8 0), .lit (.int .u8 0), .lit (.int .u8 255), .lit (.int .u8 255)]

/-- 'nomenclatorlaw13.TransMatches': WHATEVER THE INPUT: true; the input reads as it did. -/
def transMatchesSpec : ChangeSpec := { name := "transMatches", fn := fun _ => fun
  | [d1, d2, d3] => { results := [.lit (.bool true)], args := [d1, d2, d3] }
  | _ => none }
def transMatchesRow : OpenClaim := { program := "ythcpjcgjmdfpjaadoor", sum := "47332711bf3c3c41072bd6b4c8b8955c014b413753da66ec16c3a194412a0432", func := "nomenclator/nomenclatorlaw13.TransMatches", spec := "transMatches", named := ["nomenclator/msg.mapped"], apart := false, laid := [("nomenclator/msg.mapped", laid_nomenclator_msg_mapped)] }
def TransMatchesSaid : Prop := transMatchesRow.holds Tryd.pinned (OpenSpec.ofChange transMatchesSpec)

/-- ITS FALSE NEIGHBOUR: 'it returns false'. Refute it at one input. -/
def transMatchesWrong : ChangeSpec := { name := "transMatches", fn := fun _ => fun
  | [d1, d2, d3] => { results := [.lit (.bool false)], args := [d1, d2, d3] }
  | _ => none }
def TransMatchesWrongFalsely : Prop := transMatchesRow.holds Tryd.pinned (OpenSpec.ofChange transMatchesWrong)

/-- 'nomenclatorlaw13.TransDraws': WHATEVER THE INPUT: true; the input reads as it did. -/
def transDrawsSpec : ChangeSpec := { name := "transDraws", fn := fun _ => fun
  | [d] => { results := [.lit (.bool true)], args := [d] }
  | _ => none }
def transDrawsRow : OpenClaim := { program := "ythcpjcgjmdfpjaadoor", sum := "47332711bf3c3c41072bd6b4c8b8955c014b413753da66ec16c3a194412a0432", func := "nomenclator/nomenclatorlaw13.TransDraws", spec := "transDraws", named := ["nomenclator/msg.mapped"], apart := false, laid := [("nomenclator/msg.mapped", laid_nomenclator_msg_mapped)] }
def TransDrawsSaid : Prop := transDrawsRow.holds Tryd.pinned (OpenSpec.ofChange transDrawsSpec)

/-- ITS FALSE NEIGHBOUR: 'it returns false'. Refute it at one input. -/
def transDrawsWrong : ChangeSpec := { name := "transDraws", fn := fun _ => fun
  | [d] => { results := [.lit (.bool false)], args := [d] }
  | _ => none }
def TransDrawsWrongFalsely : Prop := transDrawsRow.holds Tryd.pinned (OpenSpec.ofChange transDrawsWrong)

/-- 'nomenclatorlaw13.TransJunk': WHATEVER THE INPUT: true; the input reads as it did. -/
def transJunkSpec : ChangeSpec := { name := "transJunk", fn := fun _ => fun
  | [d1, d2] => { results := [.lit (.bool true)], args := [d1, d2] }
  | _ => none }
def transJunkRow : OpenClaim := { program := "ythcpjcgjmdfpjaadoor", sum := "47332711bf3c3c41072bd6b4c8b8955c014b413753da66ec16c3a194412a0432", func := "nomenclator/nomenclatorlaw13.TransJunk", spec := "transJunk", named := ["nomenclator/msg.mapped"], apart := false, laid := [("nomenclator/msg.mapped", laid_nomenclator_msg_mapped)] }
def TransJunkSaid : Prop := transJunkRow.holds Tryd.pinned (OpenSpec.ofChange transJunkSpec)

/-- ITS FALSE NEIGHBOUR: 'it returns false'. Refute it at one input. -/
def transJunkWrong : ChangeSpec := { name := "transJunk", fn := fun _ => fun
  | [d1, d2] => { results := [.lit (.bool false)], args := [d1, d2] }
  | _ => none }
def TransJunkWrongFalsely : Prop := transJunkRow.holds Tryd.pinned (OpenSpec.ofChange transJunkWrong)

/-- 'nomenclatorlaw13.TransLong': WHATEVER THE INPUT: true; the input reads as it did. -/
def transLongSpec : ChangeSpec := { name := "transLong", fn := fun _ => fun
  | [d1, d2, d3] => { results := [.lit (.bool true)], args := [d1, d2, d3] }
  | _ => none }
def transLongRow : OpenClaim := { program := "ythcpjcgjmdfpjaadoor", sum := "47332711bf3c3c41072bd6b4c8b8955c014b413753da66ec16c3a194412a0432", func := "nomenclator/nomenclatorlaw13.TransLong", spec := "transLong", named := ["nomenclator/msg.mapped"], apart := false, laid := [("nomenclator/msg.mapped", laid_nomenclator_msg_mapped)] }
def TransLongSaid : Prop := transLongRow.holds Tryd.pinned (OpenSpec.ofChange transLongSpec)

/-- ITS FALSE NEIGHBOUR: 'it returns false'. Refute it at one input. -/
def transLongWrong : ChangeSpec := { name := "transLong", fn := fun _ => fun
  | [d1, d2, d3] => { results := [.lit (.bool false)], args := [d1, d2, d3] }
  | _ => none }
def TransLongWrongFalsely : Prop := transLongRow.holds Tryd.pinned (OpenSpec.ofChange transLongWrong)

/-- 'nomenclatorlaw04.MsgJunk': WHATEVER THE INPUT: true; the input reads as it did. -/
def msgJunkSpec : ChangeSpec := { name := "msgJunk", fn := fun _ => fun
  | [d] => { results := [.lit (.bool true)], args := [d] }
  | _ => none }
def msgJunkRow : OpenClaim := { program := "ythcpjcgjmdfpjaadoor", sum := "47332711bf3c3c41072bd6b4c8b8955c014b413753da66ec16c3a194412a0432", func := "nomenclator/nomenclatorlaw04.MsgJunk", spec := "msgJunk", inPlace := ["internal/bytealg.CountString", "internal/bytealg.IndexByteString", "internal/bytealg.IndexString"], named := ["nomenclator/msg.mapped", "internal/bytealg.MaxLen"], apart := false, laid := [("nomenclator/msg.mapped", laid_nomenclator_msg_mapped)] }
def MsgJunkSaid : Prop := msgJunkRow.holds Tryd.pinned (OpenSpec.ofChange msgJunkSpec)

/-- ITS FALSE NEIGHBOUR: 'it returns false'. Refute it at one input. -/
def msgJunkWrong : ChangeSpec := { name := "msgJunk", fn := fun _ => fun
  | [d] => { results := [.lit (.bool false)], args := [d] }
  | _ => none }
def MsgJunkWrongFalsely : Prop := msgJunkRow.holds Tryd.pinned (OpenSpec.ofChange msgJunkWrong)

/-- 'nomenclatorlaw13.TransOthers': WHATEVER THE INPUT: true; the input reads as it did. -/
def transOthersSpec : ChangeSpec := { name := "transOthers", fn := fun _ => fun
  | [d1, d2, d3] => { results := [.lit (.bool true)], args := [d1, d2, d3] }
  | _ => none }
def transOthersRow : OpenClaim := { program := "ythcpjcgjmdfpjaadoor", sum := "47332711bf3c3c41072bd6b4c8b8955c014b413753da66ec16c3a194412a0432", func := "nomenclator/nomenclatorlaw13.TransOthers", spec := "transOthers", named := ["nomenclator/msg.mapped"], apart := false, laid := [("nomenclator/msg.mapped", laid_nomenclator_msg_mapped)] }
def TransOthersSaid : Prop := transOthersRow.holds Tryd.pinned (OpenSpec.ofChange transOthersSpec)

/-- ITS FALSE NEIGHBOUR: 'it returns false'. Refute it at one input. -/
def transOthersWrong : ChangeSpec := { name := "transOthers", fn := fun _ => fun
  | [d1, d2, d3] => { results := [.lit (.bool false)], args := [d1, d2, d3] }
  | _ => none }
def TransOthersWrongFalsely : Prop := transOthersRow.holds Tryd.pinned (OpenSpec.ofChange transOthersWrong)

/-- 'nomenclatorlaw04.MsgCounts': WHATEVER THE INPUT: true; the input reads as it did. -/
def msgCountsSpec : ChangeSpec := { name := "msgCounts", fn := fun _ => fun
  | [d1, d2] => { results := [.lit (.bool true)], args := [d1, d2] }
  | _ => none }
def msgCountsRow : OpenClaim := { program := "ythcpjcgjmdfpjaadoor", sum := "47332711bf3c3c41072bd6b4c8b8955c014b413753da66ec16c3a194412a0432", func := "nomenclator/nomenclatorlaw04.MsgCounts", spec := "msgCounts", inPlace := ["internal/bytealg.CountString", "internal/bytealg.IndexByteString", "internal/bytealg.IndexString"], named := ["nomenclator/msg.mapped", "internal/bytealg.MaxLen"], apart := false, laid := [("nomenclator/msg.mapped", laid_nomenclator_msg_mapped)] }
def MsgCountsSaid : Prop := msgCountsRow.holds Tryd.pinned (OpenSpec.ofChange msgCountsSpec)

/-- ITS FALSE NEIGHBOUR: 'it returns false'. Refute it at one input. -/
def msgCountsWrong : ChangeSpec := { name := "msgCounts", fn := fun _ => fun
  | [d1, d2] => { results := [.lit (.bool false)], args := [d1, d2] }
  | _ => none }
def MsgCountsWrongFalsely : Prop := msgCountsRow.holds Tryd.pinned (OpenSpec.ofChange msgCountsWrong)

/-- 'nomenclatorlaw13.TransSends': WHATEVER THE INPUT: true; the input reads as it did. -/
def transSendsSpec : ChangeSpec := { name := "transSends", fn := fun _ => fun
  | [d1, d2, d3] => { results := [.lit (.bool true)], args := [d1, d2, d3] }
  | _ => none }
def transSendsRow : OpenClaim := { program := "ythcpjcgjmdfpjaadoor", sum := "47332711bf3c3c41072bd6b4c8b8955c014b413753da66ec16c3a194412a0432", func := "nomenclator/nomenclatorlaw13.TransSends", spec := "transSends", named := ["nomenclator/msg.mapped"], apart := false, laid := [("nomenclator/msg.mapped", laid_nomenclator_msg_mapped)] }
def TransSendsSaid : Prop := transSendsRow.holds Tryd.pinned (OpenSpec.ofChange transSendsSpec)

/-- ITS FALSE NEIGHBOUR: 'it returns false'. Refute it at one input. -/
def transSendsWrong : ChangeSpec := { name := "transSends", fn := fun _ => fun
  | [d1, d2, d3] => { results := [.lit (.bool false)], args := [d1, d2, d3] }
  | _ => none }
def TransSendsWrongFalsely : Prop := transSendsRow.holds Tryd.pinned (OpenSpec.ofChange transSendsWrong)

/-- 'nomenclatorlaw14.LlmnrAnswers': WHATEVER THE INPUT: true; the input reads as it did. -/
def llmnrAnswersSpec : ChangeSpec := { name := "llmnrAnswers", fn := fun _ => fun
  | [d1, d2, d3] => { results := [.lit (.bool true)], args := [d1, d2, d3] }
  | _ => none }
def llmnrAnswersRow : OpenClaim := { program := "ythcpjcgjmdfpjaadoor", sum := "47332711bf3c3c41072bd6b4c8b8955c014b413753da66ec16c3a194412a0432", func := "nomenclator/nomenclatorlaw14.LlmnrAnswers", spec := "llmnrAnswers", named := ["nomenclator/msg.mapped"], apart := false, laid := [("nomenclator/msg.mapped", laid_nomenclator_msg_mapped)] }
def LlmnrAnswersSaid : Prop := llmnrAnswersRow.holds Tryd.pinned (OpenSpec.ofChange llmnrAnswersSpec)

/-- ITS FALSE NEIGHBOUR: 'it returns false'. Refute it at one input. -/
def llmnrAnswersWrong : ChangeSpec := { name := "llmnrAnswers", fn := fun _ => fun
  | [d1, d2, d3] => { results := [.lit (.bool false)], args := [d1, d2, d3] }
  | _ => none }
def LlmnrAnswersWrongFalsely : Prop := llmnrAnswersRow.holds Tryd.pinned (OpenSpec.ofChange llmnrAnswersWrong)

/-- 'nomenclatorlaw14.LlmnrOnce': WHATEVER THE INPUT: true; the input reads as it did. -/
def llmnrOnceSpec : ChangeSpec := { name := "llmnrOnce", fn := fun _ => fun
  | [d1, d2] => { results := [.lit (.bool true)], args := [d1, d2] }
  | _ => none }
def llmnrOnceRow : OpenClaim := { program := "ythcpjcgjmdfpjaadoor", sum := "47332711bf3c3c41072bd6b4c8b8955c014b413753da66ec16c3a194412a0432", func := "nomenclator/nomenclatorlaw14.LlmnrOnce", spec := "llmnrOnce", named := ["nomenclator/msg.mapped"], apart := false, laid := [("nomenclator/msg.mapped", laid_nomenclator_msg_mapped)] }
def LlmnrOnceSaid : Prop := llmnrOnceRow.holds Tryd.pinned (OpenSpec.ofChange llmnrOnceSpec)

/-- ITS FALSE NEIGHBOUR: 'it returns false'. Refute it at one input. -/
def llmnrOnceWrong : ChangeSpec := { name := "llmnrOnce", fn := fun _ => fun
  | [d1, d2] => { results := [.lit (.bool false)], args := [d1, d2] }
  | _ => none }
def LlmnrOnceWrongFalsely : Prop := llmnrOnceRow.holds Tryd.pinned (OpenSpec.ofChange llmnrOnceWrong)

/-- 'nomenclatorlaw14.LlmnrTypes': WHATEVER THE INPUT: true; the input reads as it did. -/
def llmnrTypesSpec : ChangeSpec := { name := "llmnrTypes", fn := fun _ => fun
  | [d1, d2, d3] => { results := [.lit (.bool true)], args := [d1, d2, d3] }
  | _ => none }
def llmnrTypesRow : OpenClaim := { program := "ythcpjcgjmdfpjaadoor", sum := "47332711bf3c3c41072bd6b4c8b8955c014b413753da66ec16c3a194412a0432", func := "nomenclator/nomenclatorlaw14.LlmnrTypes", spec := "llmnrTypes", named := ["nomenclator/msg.mapped"], apart := false, laid := [("nomenclator/msg.mapped", laid_nomenclator_msg_mapped)] }
def LlmnrTypesSaid : Prop := llmnrTypesRow.holds Tryd.pinned (OpenSpec.ofChange llmnrTypesSpec)

/-- ITS FALSE NEIGHBOUR: 'it returns false'. Refute it at one input. -/
def llmnrTypesWrong : ChangeSpec := { name := "llmnrTypes", fn := fun _ => fun
  | [d1, d2, d3] => { results := [.lit (.bool false)], args := [d1, d2, d3] }
  | _ => none }
def LlmnrTypesWrongFalsely : Prop := llmnrTypesRow.holds Tryd.pinned (OpenSpec.ofChange llmnrTypesWrong)

/-- 'nomenclatorlaw04.MsgBack': WHATEVER THE INPUT: true; the input reads as it did. -/
def msgBackSpec : ChangeSpec := { name := "msgBack", fn := fun _ => fun
  | [d1, d2, d3] => { results := [.lit (.bool true)], args := [d1, d2, d3] }
  | _ => none }
def msgBackRow : OpenClaim := { program := "ythcpjcgjmdfpjaadoor", sum := "47332711bf3c3c41072bd6b4c8b8955c014b413753da66ec16c3a194412a0432", func := "nomenclator/nomenclatorlaw04.MsgBack", spec := "msgBack", inPlace := ["internal/bytealg.CountString", "internal/bytealg.IndexByteString", "internal/bytealg.IndexString"], named := ["nomenclator/msg.mapped", "internal/bytealg.MaxLen"], apart := false, laid := [("nomenclator/msg.mapped", laid_nomenclator_msg_mapped)] }
def MsgBackSaid : Prop := msgBackRow.holds Tryd.pinned (OpenSpec.ofChange msgBackSpec)

/-- ITS FALSE NEIGHBOUR: 'it returns false'. Refute it at one input. -/
def msgBackWrong : ChangeSpec := { name := "msgBack", fn := fun _ => fun
  | [d1, d2, d3] => { results := [.lit (.bool false)], args := [d1, d2, d3] }
  | _ => none }
def MsgBackWrongFalsely : Prop := msgBackRow.holds Tryd.pinned (OpenSpec.ofChange msgBackWrong)

/-- 'nomenclatorlaw04.MsgAny': WHATEVER THE INPUT: true; the input reads as it did. -/
def msgAnySpec : ChangeSpec := { name := "msgAny", fn := fun _ => fun
  | [d1, d2, d3] => { results := [.lit (.bool true)], args := [d1, d2, d3] }
  | _ => none }
def msgAnyRow : OpenClaim := { program := "ythcpjcgjmdfpjaadoor", sum := "47332711bf3c3c41072bd6b4c8b8955c014b413753da66ec16c3a194412a0432", func := "nomenclator/nomenclatorlaw04.MsgAny", spec := "msgAny", inPlace := ["internal/bytealg.CountString", "internal/bytealg.IndexByteString", "internal/bytealg.IndexString"], named := ["nomenclator/msg.mapped", "internal/bytealg.MaxLen"], apart := false, laid := [("nomenclator/msg.mapped", laid_nomenclator_msg_mapped)] }
def MsgAnySaid : Prop := msgAnyRow.holds Tryd.pinned (OpenSpec.ofChange msgAnySpec)

/-- ITS FALSE NEIGHBOUR: 'it returns false'. Refute it at one input. -/
def msgAnyWrong : ChangeSpec := { name := "msgAny", fn := fun _ => fun
  | [d1, d2, d3] => { results := [.lit (.bool false)], args := [d1, d2, d3] }
  | _ => none }
def MsgAnyWrongFalsely : Prop := msgAnyRow.holds Tryd.pinned (OpenSpec.ofChange msgAnyWrong)

/-- 'nomenclatorlaw04.MsgRight': WHATEVER THE INPUT: true; the input reads as it did. -/
def msgRightSpec : ChangeSpec := { name := "msgRight", fn := fun _ => fun
  | [d1, d2] => { results := [.lit (.bool true)], args := [d1, d2] }
  | _ => none }
def msgRightRow : OpenClaim := { program := "ythcpjcgjmdfpjaadoor", sum := "47332711bf3c3c41072bd6b4c8b8955c014b413753da66ec16c3a194412a0432", func := "nomenclator/nomenclatorlaw04.MsgRight", spec := "msgRight", inPlace := ["internal/bytealg.CountString", "internal/bytealg.IndexByteString", "internal/bytealg.IndexString"], unfollowed := true, recurses := true, named := ["nomenclator/msg.mapped", "internal/bytealg.MaxLen"], apart := false, laid := [("nomenclator/msg.mapped", laid_nomenclator_msg_mapped)] }
def MsgRightSaid : Prop := msgRightRow.holds Tryd.pinned (OpenSpec.ofChange msgRightSpec)

/-- ITS FALSE NEIGHBOUR: 'it returns false'. Refute it at one input. -/
def msgRightWrong : ChangeSpec := { name := "msgRight", fn := fun _ => fun
  | [d1, d2] => { results := [.lit (.bool false)], args := [d1, d2] }
  | _ => none }
def MsgRightWrongFalsely : Prop := msgRightRow.holds Tryd.pinned (OpenSpec.ofChange msgRightWrong)

/-- 'nomenclatorlaw04.MsgPlaces': WHATEVER THE INPUT: true; the input reads as it did. -/
def msgPlacesSpec : ChangeSpec := { name := "msgPlaces", fn := fun _ => fun
  | [d1, d2] => { results := [.lit (.bool true)], args := [d1, d2] }
  | _ => none }
def msgPlacesRow : OpenClaim := { program := "ythcpjcgjmdfpjaadoor", sum := "47332711bf3c3c41072bd6b4c8b8955c014b413753da66ec16c3a194412a0432", func := "nomenclator/nomenclatorlaw04.MsgPlaces", spec := "msgPlaces", inPlace := ["internal/bytealg.CountString", "internal/bytealg.IndexByteString", "internal/bytealg.IndexString"], named := ["nomenclator/msg.mapped", "internal/bytealg.MaxLen"], apart := false, laid := [("nomenclator/msg.mapped", laid_nomenclator_msg_mapped)] }
def MsgPlacesSaid : Prop := msgPlacesRow.holds Tryd.pinned (OpenSpec.ofChange msgPlacesSpec)

/-- ITS FALSE NEIGHBOUR: 'it returns false'. Refute it at one input. -/
def msgPlacesWrong : ChangeSpec := { name := "msgPlaces", fn := fun _ => fun
  | [d1, d2] => { results := [.lit (.bool false)], args := [d1, d2] }
  | _ => none }
def MsgPlacesWrongFalsely : Prop := msgPlacesRow.holds Tryd.pinned (OpenSpec.ofChange msgPlacesWrong)

/-- 'nomenclatorlaw04.MsgHeads': WHATEVER THE INPUT: true; the input reads as it did. -/
def msgHeadsSpec : ChangeSpec := { name := "msgHeads", fn := fun _ => fun
  | [d1, d2] => { results := [.lit (.bool true)], args := [d1, d2] }
  | _ => none }
def msgHeadsRow : OpenClaim := { program := "ythcpjcgjmdfpjaadoor", sum := "47332711bf3c3c41072bd6b4c8b8955c014b413753da66ec16c3a194412a0432", func := "nomenclator/nomenclatorlaw04.MsgHeads", spec := "msgHeads", inPlace := ["internal/bytealg.CountString", "internal/bytealg.IndexByteString", "internal/bytealg.IndexString"], named := ["nomenclator/msg.mapped", "internal/bytealg.MaxLen"], apart := false, laid := [("nomenclator/msg.mapped", laid_nomenclator_msg_mapped)] }
def MsgHeadsSaid : Prop := msgHeadsRow.holds Tryd.pinned (OpenSpec.ofChange msgHeadsSpec)

/-- ITS FALSE NEIGHBOUR: 'it returns false'. Refute it at one input. -/
def msgHeadsWrong : ChangeSpec := { name := "msgHeads", fn := fun _ => fun
  | [d1, d2] => { results := [.lit (.bool false)], args := [d1, d2] }
  | _ => none }
def MsgHeadsWrongFalsely : Prop := msgHeadsRow.holds Tryd.pinned (OpenSpec.ofChange msgHeadsWrong)

/-- 'nomenclatorlaw04.MsgCapitals': WHATEVER THE INPUT: true; the input reads as it did. -/
def msgCapitalsSpec : ChangeSpec := { name := "msgCapitals", fn := fun _ => fun
  | [d1, d2, d3] => { results := [.lit (.bool true)], args := [d1, d2, d3] }
  | _ => none }
def msgCapitalsRow : OpenClaim := { program := "ythcpjcgjmdfpjaadoor", sum := "47332711bf3c3c41072bd6b4c8b8955c014b413753da66ec16c3a194412a0432", func := "nomenclator/nomenclatorlaw04.MsgCapitals", spec := "msgCapitals", inPlace := ["internal/bytealg.CountString", "internal/bytealg.IndexByteString", "internal/bytealg.IndexString"], named := ["nomenclator/msg.mapped", "internal/bytealg.MaxLen"], apart := false, laid := [("nomenclator/msg.mapped", laid_nomenclator_msg_mapped)] }
def MsgCapitalsSaid : Prop := msgCapitalsRow.holds Tryd.pinned (OpenSpec.ofChange msgCapitalsSpec)

/-- ITS FALSE NEIGHBOUR: 'it returns false'. Refute it at one input. -/
def msgCapitalsWrong : ChangeSpec := { name := "msgCapitals", fn := fun _ => fun
  | [d1, d2, d3] => { results := [.lit (.bool false)], args := [d1, d2, d3] }
  | _ => none }
def MsgCapitalsWrongFalsely : Prop := msgCapitalsRow.holds Tryd.pinned (OpenSpec.ofChange msgCapitalsWrong)

/-- 'nomenclatorlaw04.MsgMore': WHATEVER THE INPUT: true; the input reads as it did. -/
def msgMoreSpec : ChangeSpec := { name := "msgMore", fn := fun _ => fun
  | [d1, d2, d3] => { results := [.lit (.bool true)], args := [d1, d2, d3] }
  | _ => none }
def msgMoreRow : OpenClaim := { program := "ythcpjcgjmdfpjaadoor", sum := "47332711bf3c3c41072bd6b4c8b8955c014b413753da66ec16c3a194412a0432", func := "nomenclator/nomenclatorlaw04.MsgMore", spec := "msgMore", inPlace := ["internal/bytealg.CountString", "internal/bytealg.IndexByteString", "internal/bytealg.IndexString"], named := ["nomenclator/msg.mapped", "internal/bytealg.MaxLen"], apart := false, laid := [("nomenclator/msg.mapped", laid_nomenclator_msg_mapped)] }
def MsgMoreSaid : Prop := msgMoreRow.holds Tryd.pinned (OpenSpec.ofChange msgMoreSpec)

/-- ITS FALSE NEIGHBOUR: 'it returns false'. Refute it at one input. -/
def msgMoreWrong : ChangeSpec := { name := "msgMore", fn := fun _ => fun
  | [d1, d2, d3] => { results := [.lit (.bool false)], args := [d1, d2, d3] }
  | _ => none }
def MsgMoreWrongFalsely : Prop := msgMoreRow.holds Tryd.pinned (OpenSpec.ofChange msgMoreWrong)

/- THE SECOND FORM. 'bulk': how many values and letters a reading holds, each counted each time it is reached (what is shared counts as often as it is met; a slice's spare places count too). A statement '..UptoSaid' is the law's where the arguments, and the package variables that the reading takes, are together of bulk at most 1048576: NARROWER than '..Said'. Prove '..Said' where nothing that the law and all that it calls make is longer than what came in: it says more and counts as full. Else prove '..UptoSaid'. A law counts once. -/
mutual
def uptoBulk {H : Type} : DataW H → Nat
  | .lit (.string bytes) => bytes.length + 1
  | .lit _ => 1
  | .nil => 1
  | .ptr d => uptoBulk d + 1
  | .slice elems spare => uptoBulkAll elems + uptoBulkAll spare + 1
  | .agg parts => uptoBulkAll parts + 1
  | .iface _ d => uptoBulk d + 1
  | .map entries => uptoBulkEntries entries + 1
  | .held _ => 1
def uptoBulkAll {H : Type} : List (DataW H) → Nat
  | [] => 0
  | d :: r => uptoBulk d + uptoBulkAll r
def uptoBulkEntries {H : Type} : List (Lit × DataW H) → Nat
  | [] => 0
  | x :: r => uptoBulkEntry x + uptoBulkEntries r
def uptoBulkEntry {H : Type} : Lit × DataW H → Nat
  | (.string bytes, d) => bytes.length + uptoBulk d + 1
  | (_, d) => uptoBulk d + 1
 end
def uptoSmall : (H : Type) → List (DataW H) → Bool := fun _ ds => decide (uptoBulkAll ds ≤ 1048576)
def OpenSpec.upto (s : _root_.Go.ChangeSpec) : _root_.Go.OpenSpec := { _root_.Go.OpenSpec.ofChange s with cond := some uptoSmall }

/-- 'nomenclatorlaw13.TransMatches', WHERE WHAT IT READS IS OF BULK AT MOST 1048576: true; the input reads as it did. -/
def transMatchesUptoRow : OpenClaim := { program := "ythcpjcgjmdfpjaadoor", sum := "47332711bf3c3c41072bd6b4c8b8955c014b413753da66ec16c3a194412a0432", func := "nomenclator/nomenclatorlaw13.TransMatches", spec := "transMatches", named := ["nomenclator/msg.mapped"], apart := false, laid := [("nomenclator/msg.mapped", laid_nomenclator_msg_mapped)], narrowed := true }
def TransMatchesUptoSaid : Prop := transMatchesUptoRow.holds Tryd.pinned (OpenSpec.upto transMatchesSpec)

/-- 'nomenclatorlaw13.TransDraws', WHERE WHAT IT READS IS OF BULK AT MOST 1048576: true; the input reads as it did. -/
def transDrawsUptoRow : OpenClaim := { program := "ythcpjcgjmdfpjaadoor", sum := "47332711bf3c3c41072bd6b4c8b8955c014b413753da66ec16c3a194412a0432", func := "nomenclator/nomenclatorlaw13.TransDraws", spec := "transDraws", named := ["nomenclator/msg.mapped"], apart := false, laid := [("nomenclator/msg.mapped", laid_nomenclator_msg_mapped)], narrowed := true }
def TransDrawsUptoSaid : Prop := transDrawsUptoRow.holds Tryd.pinned (OpenSpec.upto transDrawsSpec)

/-- 'nomenclatorlaw13.TransJunk', WHERE WHAT IT READS IS OF BULK AT MOST 1048576: true; the input reads as it did. -/
def transJunkUptoRow : OpenClaim := { program := "ythcpjcgjmdfpjaadoor", sum := "47332711bf3c3c41072bd6b4c8b8955c014b413753da66ec16c3a194412a0432", func := "nomenclator/nomenclatorlaw13.TransJunk", spec := "transJunk", named := ["nomenclator/msg.mapped"], apart := false, laid := [("nomenclator/msg.mapped", laid_nomenclator_msg_mapped)], narrowed := true }
def TransJunkUptoSaid : Prop := transJunkUptoRow.holds Tryd.pinned (OpenSpec.upto transJunkSpec)

/-- 'nomenclatorlaw13.TransLong', WHERE WHAT IT READS IS OF BULK AT MOST 1048576: true; the input reads as it did. -/
def transLongUptoRow : OpenClaim := { program := "ythcpjcgjmdfpjaadoor", sum := "47332711bf3c3c41072bd6b4c8b8955c014b413753da66ec16c3a194412a0432", func := "nomenclator/nomenclatorlaw13.TransLong", spec := "transLong", named := ["nomenclator/msg.mapped"], apart := false, laid := [("nomenclator/msg.mapped", laid_nomenclator_msg_mapped)], narrowed := true }
def TransLongUptoSaid : Prop := transLongUptoRow.holds Tryd.pinned (OpenSpec.upto transLongSpec)

/-- 'nomenclatorlaw04.MsgJunk', WHERE WHAT IT READS IS OF BULK AT MOST 1048576: true; the input reads as it did. -/
def msgJunkUptoRow : OpenClaim := { program := "ythcpjcgjmdfpjaadoor", sum := "47332711bf3c3c41072bd6b4c8b8955c014b413753da66ec16c3a194412a0432", func := "nomenclator/nomenclatorlaw04.MsgJunk", spec := "msgJunk", inPlace := ["internal/bytealg.CountString", "internal/bytealg.IndexByteString", "internal/bytealg.IndexString"], named := ["nomenclator/msg.mapped", "internal/bytealg.MaxLen"], apart := false, laid := [("nomenclator/msg.mapped", laid_nomenclator_msg_mapped)], narrowed := true }
def MsgJunkUptoSaid : Prop := msgJunkUptoRow.holds Tryd.pinned (OpenSpec.upto msgJunkSpec)

/-- 'nomenclatorlaw13.TransOthers', WHERE WHAT IT READS IS OF BULK AT MOST 1048576: true; the input reads as it did. -/
def transOthersUptoRow : OpenClaim := { program := "ythcpjcgjmdfpjaadoor", sum := "47332711bf3c3c41072bd6b4c8b8955c014b413753da66ec16c3a194412a0432", func := "nomenclator/nomenclatorlaw13.TransOthers", spec := "transOthers", named := ["nomenclator/msg.mapped"], apart := false, laid := [("nomenclator/msg.mapped", laid_nomenclator_msg_mapped)], narrowed := true }
def TransOthersUptoSaid : Prop := transOthersUptoRow.holds Tryd.pinned (OpenSpec.upto transOthersSpec)

/-- 'nomenclatorlaw04.MsgCounts', WHERE WHAT IT READS IS OF BULK AT MOST 1048576: true; the input reads as it did. -/
def msgCountsUptoRow : OpenClaim := { program := "ythcpjcgjmdfpjaadoor", sum := "47332711bf3c3c41072bd6b4c8b8955c014b413753da66ec16c3a194412a0432", func := "nomenclator/nomenclatorlaw04.MsgCounts", spec := "msgCounts", inPlace := ["internal/bytealg.CountString", "internal/bytealg.IndexByteString", "internal/bytealg.IndexString"], named := ["nomenclator/msg.mapped", "internal/bytealg.MaxLen"], apart := false, laid := [("nomenclator/msg.mapped", laid_nomenclator_msg_mapped)], narrowed := true }
def MsgCountsUptoSaid : Prop := msgCountsUptoRow.holds Tryd.pinned (OpenSpec.upto msgCountsSpec)

/-- 'nomenclatorlaw13.TransSends', WHERE WHAT IT READS IS OF BULK AT MOST 1048576: true; the input reads as it did. -/
def transSendsUptoRow : OpenClaim := { program := "ythcpjcgjmdfpjaadoor", sum := "47332711bf3c3c41072bd6b4c8b8955c014b413753da66ec16c3a194412a0432", func := "nomenclator/nomenclatorlaw13.TransSends", spec := "transSends", named := ["nomenclator/msg.mapped"], apart := false, laid := [("nomenclator/msg.mapped", laid_nomenclator_msg_mapped)], narrowed := true }
def TransSendsUptoSaid : Prop := transSendsUptoRow.holds Tryd.pinned (OpenSpec.upto transSendsSpec)

/-- 'nomenclatorlaw14.LlmnrAnswers', WHERE WHAT IT READS IS OF BULK AT MOST 1048576: true; the input reads as it did. -/
def llmnrAnswersUptoRow : OpenClaim := { program := "ythcpjcgjmdfpjaadoor", sum := "47332711bf3c3c41072bd6b4c8b8955c014b413753da66ec16c3a194412a0432", func := "nomenclator/nomenclatorlaw14.LlmnrAnswers", spec := "llmnrAnswers", named := ["nomenclator/msg.mapped"], apart := false, laid := [("nomenclator/msg.mapped", laid_nomenclator_msg_mapped)], narrowed := true }
def LlmnrAnswersUptoSaid : Prop := llmnrAnswersUptoRow.holds Tryd.pinned (OpenSpec.upto llmnrAnswersSpec)

/-- 'nomenclatorlaw14.LlmnrOnce', WHERE WHAT IT READS IS OF BULK AT MOST 1048576: true; the input reads as it did. -/
def llmnrOnceUptoRow : OpenClaim := { program := "ythcpjcgjmdfpjaadoor", sum := "47332711bf3c3c41072bd6b4c8b8955c014b413753da66ec16c3a194412a0432", func := "nomenclator/nomenclatorlaw14.LlmnrOnce", spec := "llmnrOnce", named := ["nomenclator/msg.mapped"], apart := false, laid := [("nomenclator/msg.mapped", laid_nomenclator_msg_mapped)], narrowed := true }
def LlmnrOnceUptoSaid : Prop := llmnrOnceUptoRow.holds Tryd.pinned (OpenSpec.upto llmnrOnceSpec)

/-- 'nomenclatorlaw14.LlmnrTypes', WHERE WHAT IT READS IS OF BULK AT MOST 1048576: true; the input reads as it did. -/
def llmnrTypesUptoRow : OpenClaim := { program := "ythcpjcgjmdfpjaadoor", sum := "47332711bf3c3c41072bd6b4c8b8955c014b413753da66ec16c3a194412a0432", func := "nomenclator/nomenclatorlaw14.LlmnrTypes", spec := "llmnrTypes", named := ["nomenclator/msg.mapped"], apart := false, laid := [("nomenclator/msg.mapped", laid_nomenclator_msg_mapped)], narrowed := true }
def LlmnrTypesUptoSaid : Prop := llmnrTypesUptoRow.holds Tryd.pinned (OpenSpec.upto llmnrTypesSpec)

/-- 'nomenclatorlaw04.MsgBack', WHERE WHAT IT READS IS OF BULK AT MOST 1048576: true; the input reads as it did. -/
def msgBackUptoRow : OpenClaim := { program := "ythcpjcgjmdfpjaadoor", sum := "47332711bf3c3c41072bd6b4c8b8955c014b413753da66ec16c3a194412a0432", func := "nomenclator/nomenclatorlaw04.MsgBack", spec := "msgBack", inPlace := ["internal/bytealg.CountString", "internal/bytealg.IndexByteString", "internal/bytealg.IndexString"], named := ["nomenclator/msg.mapped", "internal/bytealg.MaxLen"], apart := false, laid := [("nomenclator/msg.mapped", laid_nomenclator_msg_mapped)], narrowed := true }
def MsgBackUptoSaid : Prop := msgBackUptoRow.holds Tryd.pinned (OpenSpec.upto msgBackSpec)

/-- 'nomenclatorlaw04.MsgAny', WHERE WHAT IT READS IS OF BULK AT MOST 1048576: true; the input reads as it did. -/
def msgAnyUptoRow : OpenClaim := { program := "ythcpjcgjmdfpjaadoor", sum := "47332711bf3c3c41072bd6b4c8b8955c014b413753da66ec16c3a194412a0432", func := "nomenclator/nomenclatorlaw04.MsgAny", spec := "msgAny", inPlace := ["internal/bytealg.CountString", "internal/bytealg.IndexByteString", "internal/bytealg.IndexString"], named := ["nomenclator/msg.mapped", "internal/bytealg.MaxLen"], apart := false, laid := [("nomenclator/msg.mapped", laid_nomenclator_msg_mapped)], narrowed := true }
def MsgAnyUptoSaid : Prop := msgAnyUptoRow.holds Tryd.pinned (OpenSpec.upto msgAnySpec)

/-- 'nomenclatorlaw04.MsgRight', WHERE WHAT IT READS IS OF BULK AT MOST 1048576: true; the input reads as it did. -/
def msgRightUptoRow : OpenClaim := { program := "ythcpjcgjmdfpjaadoor", sum := "47332711bf3c3c41072bd6b4c8b8955c014b413753da66ec16c3a194412a0432", func := "nomenclator/nomenclatorlaw04.MsgRight", spec := "msgRight", inPlace := ["internal/bytealg.CountString", "internal/bytealg.IndexByteString", "internal/bytealg.IndexString"], unfollowed := true, recurses := true, named := ["nomenclator/msg.mapped", "internal/bytealg.MaxLen"], apart := false, laid := [("nomenclator/msg.mapped", laid_nomenclator_msg_mapped)], narrowed := true }
def MsgRightUptoSaid : Prop := msgRightUptoRow.holds Tryd.pinned (OpenSpec.upto msgRightSpec)

/-- 'nomenclatorlaw04.MsgPlaces', WHERE WHAT IT READS IS OF BULK AT MOST 1048576: true; the input reads as it did. -/
def msgPlacesUptoRow : OpenClaim := { program := "ythcpjcgjmdfpjaadoor", sum := "47332711bf3c3c41072bd6b4c8b8955c014b413753da66ec16c3a194412a0432", func := "nomenclator/nomenclatorlaw04.MsgPlaces", spec := "msgPlaces", inPlace := ["internal/bytealg.CountString", "internal/bytealg.IndexByteString", "internal/bytealg.IndexString"], named := ["nomenclator/msg.mapped", "internal/bytealg.MaxLen"], apart := false, laid := [("nomenclator/msg.mapped", laid_nomenclator_msg_mapped)], narrowed := true }
def MsgPlacesUptoSaid : Prop := msgPlacesUptoRow.holds Tryd.pinned (OpenSpec.upto msgPlacesSpec)

/-- 'nomenclatorlaw04.MsgHeads', WHERE WHAT IT READS IS OF BULK AT MOST 1048576: true; the input reads as it did. -/
def msgHeadsUptoRow : OpenClaim := { program := "ythcpjcgjmdfpjaadoor", sum := "47332711bf3c3c41072bd6b4c8b8955c014b413753da66ec16c3a194412a0432", func := "nomenclator/nomenclatorlaw04.MsgHeads", spec := "msgHeads", inPlace := ["internal/bytealg.CountString", "internal/bytealg.IndexByteString", "internal/bytealg.IndexString"], named := ["nomenclator/msg.mapped", "internal/bytealg.MaxLen"], apart := false, laid := [("nomenclator/msg.mapped", laid_nomenclator_msg_mapped)], narrowed := true }
def MsgHeadsUptoSaid : Prop := msgHeadsUptoRow.holds Tryd.pinned (OpenSpec.upto msgHeadsSpec)

/-- 'nomenclatorlaw04.MsgCapitals', WHERE WHAT IT READS IS OF BULK AT MOST 1048576: true; the input reads as it did. -/
def msgCapitalsUptoRow : OpenClaim := { program := "ythcpjcgjmdfpjaadoor", sum := "47332711bf3c3c41072bd6b4c8b8955c014b413753da66ec16c3a194412a0432", func := "nomenclator/nomenclatorlaw04.MsgCapitals", spec := "msgCapitals", inPlace := ["internal/bytealg.CountString", "internal/bytealg.IndexByteString", "internal/bytealg.IndexString"], named := ["nomenclator/msg.mapped", "internal/bytealg.MaxLen"], apart := false, laid := [("nomenclator/msg.mapped", laid_nomenclator_msg_mapped)], narrowed := true }
def MsgCapitalsUptoSaid : Prop := msgCapitalsUptoRow.holds Tryd.pinned (OpenSpec.upto msgCapitalsSpec)

/-- 'nomenclatorlaw04.MsgMore', WHERE WHAT IT READS IS OF BULK AT MOST 1048576: true; the input reads as it did. -/
def msgMoreUptoRow : OpenClaim := { program := "ythcpjcgjmdfpjaadoor", sum := "47332711bf3c3c41072bd6b4c8b8955c014b413753da66ec16c3a194412a0432", func := "nomenclator/nomenclatorlaw04.MsgMore", spec := "msgMore", inPlace := ["internal/bytealg.CountString", "internal/bytealg.IndexByteString", "internal/bytealg.IndexString"], named := ["nomenclator/msg.mapped", "internal/bytealg.MaxLen"], apart := false, laid := [("nomenclator/msg.mapped", laid_nomenclator_msg_mapped)], narrowed := true }
def MsgMoreUptoSaid : Prop := msgMoreUptoRow.holds Tryd.pinned (OpenSpec.upto msgMoreSpec)

end Rows
end Go.Proofs.YthcpjcgjmdfpjaaDoor
