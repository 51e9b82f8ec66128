/-
  DERIVED. GIVEN WITH THE SEED: THE CARDS: each row of YthcpjcgjmdfpjaaDoorRows.lean that lists a variable, with what it lists TIED to the program's text (the seventh form; the later family's looks); each row that meets fmt, with fmt's text TOLD by the authors' own Lean function (tested against real Go, not proved from fmt's source: count such statements apart). THE CARD IS WHAT COUNTS. Prove the row's statement (the work); the ties are given (YthcpjcgjmdfpjaaDoorTie.lean); close each card by the builder's one call (the guide's Derived/Test/ToyasCard.lean, 'card_holds'). Laid BY PROGRAM, IN A SANDBOX (cutbox-door.mjs). By AI agents, Wed Nov 11 2026. No macro, syntax, notation, axiom, sorry.
-/
import Derived.Test.YthcpjcgjmdfpjaaDoorRows
import GoSem.ClaimSeven
namespace Go.Proofs.YthcpjcgjmdfpjaaDoor
namespace Rows

/-- THE TIED CARD OF 'nomenclatorlaw13.TransMatches'. -/
def transMatchesCard : Claim7 := { stood := { row := transMatchesRow, standIns := [], harness := (true, "6afa14409c1fcf784e159d3dd9af9e0af6fc07a3d3e06aa2c8b4c577951ca517"), looks := false }, kinds := [], alts := [], laidByText := true, laidKinds := [.data], laidTests := true, laidLooks := .later }
def TransMatchesCardSaid : Prop := Claim7.holds Tryd.pinned (.plain (OpenSpec.ofChange transMatchesSpec)) transMatchesCard

/-- THE TIED CARD OF 'nomenclatorlaw13.TransDraws'. -/
def transDrawsCard : Claim7 := { stood := { row := transDrawsRow, standIns := [], harness := (true, "6afa14409c1fcf784e159d3dd9af9e0af6fc07a3d3e06aa2c8b4c577951ca517"), looks := false }, kinds := [], alts := [], laidByText := true, laidKinds := [.data], laidTests := true, laidLooks := .later }
def TransDrawsCardSaid : Prop := Claim7.holds Tryd.pinned (.plain (OpenSpec.ofChange transDrawsSpec)) transDrawsCard

/-- THE TIED CARD OF 'nomenclatorlaw13.TransJunk'. -/
def transJunkCard : Claim7 := { stood := { row := transJunkRow, standIns := [], harness := (true, "6afa14409c1fcf784e159d3dd9af9e0af6fc07a3d3e06aa2c8b4c577951ca517"), looks := false }, kinds := [], alts := [], laidByText := true, laidKinds := [.data], laidTests := true, laidLooks := .later }
def TransJunkCardSaid : Prop := Claim7.holds Tryd.pinned (.plain (OpenSpec.ofChange transJunkSpec)) transJunkCard

/-- THE TIED CARD OF 'nomenclatorlaw13.TransLong'. -/
def transLongCard : Claim7 := { stood := { row := transLongRow, standIns := [], harness := (true, "6afa14409c1fcf784e159d3dd9af9e0af6fc07a3d3e06aa2c8b4c577951ca517"), looks := false }, kinds := [], alts := [], laidByText := true, laidKinds := [.data], laidTests := true, laidLooks := .later }
def TransLongCardSaid : Prop := Claim7.holds Tryd.pinned (.plain (OpenSpec.ofChange transLongSpec)) transLongCard

/-- THE TIED CARD OF 'nomenclatorlaw04.MsgJunk'. -/
def msgJunkCard : Claim7 := { stood := { row := msgJunkRow, standIns := [], harness := (true, "6afa14409c1fcf784e159d3dd9af9e0af6fc07a3d3e06aa2c8b4c577951ca517"), looks := false }, kinds := [], alts := [], laidByText := true, laidKinds := [.data], laidTests := true, laidLooks := .later }
def MsgJunkCardSaid : Prop := Claim7.holds Tryd.pinned (.plain (OpenSpec.ofChange msgJunkSpec)) msgJunkCard

/-- THE TIED CARD OF 'nomenclatorlaw13.TransOthers'. -/
def transOthersCard : Claim7 := { stood := { row := transOthersRow, standIns := [], harness := (true, "6afa14409c1fcf784e159d3dd9af9e0af6fc07a3d3e06aa2c8b4c577951ca517"), looks := false }, kinds := [], alts := [], laidByText := true, laidKinds := [.data], laidTests := true, laidLooks := .later }
def TransOthersCardSaid : Prop := Claim7.holds Tryd.pinned (.plain (OpenSpec.ofChange transOthersSpec)) transOthersCard

/-- THE TIED CARD OF 'nomenclatorlaw04.MsgCounts'. -/
def msgCountsCard : Claim7 := { stood := { row := msgCountsRow, standIns := [], harness := (true, "6afa14409c1fcf784e159d3dd9af9e0af6fc07a3d3e06aa2c8b4c577951ca517"), looks := false }, kinds := [], alts := [], laidByText := true, laidKinds := [.data], laidTests := true, laidLooks := .later }
def MsgCountsCardSaid : Prop := Claim7.holds Tryd.pinned (.plain (OpenSpec.ofChange msgCountsSpec)) msgCountsCard

/-- THE TIED CARD OF 'nomenclatorlaw13.TransSends'. -/
def transSendsCard : Claim7 := { stood := { row := transSendsRow, standIns := [], harness := (true, "6afa14409c1fcf784e159d3dd9af9e0af6fc07a3d3e06aa2c8b4c577951ca517"), looks := false }, kinds := [], alts := [], laidByText := true, laidKinds := [.data], laidTests := true, laidLooks := .later }
def TransSendsCardSaid : Prop := Claim7.holds Tryd.pinned (.plain (OpenSpec.ofChange transSendsSpec)) transSendsCard

/-- THE TIED CARD OF 'nomenclatorlaw14.LlmnrAnswers'. -/
def llmnrAnswersCard : Claim7 := { stood := { row := llmnrAnswersRow, standIns := [], harness := (true, "6afa14409c1fcf784e159d3dd9af9e0af6fc07a3d3e06aa2c8b4c577951ca517"), looks := false }, kinds := [], alts := [], laidByText := true, laidKinds := [.data], laidTests := true, laidLooks := .later }
def LlmnrAnswersCardSaid : Prop := Claim7.holds Tryd.pinned (.plain (OpenSpec.ofChange llmnrAnswersSpec)) llmnrAnswersCard

/-- THE TIED CARD OF 'nomenclatorlaw14.LlmnrOnce'. -/
def llmnrOnceCard : Claim7 := { stood := { row := llmnrOnceRow, standIns := [], harness := (true, "6afa14409c1fcf784e159d3dd9af9e0af6fc07a3d3e06aa2c8b4c577951ca517"), looks := false }, kinds := [], alts := [], laidByText := true, laidKinds := [.data], laidTests := true, laidLooks := .later }
def LlmnrOnceCardSaid : Prop := Claim7.holds Tryd.pinned (.plain (OpenSpec.ofChange llmnrOnceSpec)) llmnrOnceCard

/-- THE TIED CARD OF 'nomenclatorlaw14.LlmnrTypes'. -/
def llmnrTypesCard : Claim7 := { stood := { row := llmnrTypesRow, standIns := [], harness := (true, "6afa14409c1fcf784e159d3dd9af9e0af6fc07a3d3e06aa2c8b4c577951ca517"), looks := false }, kinds := [], alts := [], laidByText := true, laidKinds := [.data], laidTests := true, laidLooks := .later }
def LlmnrTypesCardSaid : Prop := Claim7.holds Tryd.pinned (.plain (OpenSpec.ofChange llmnrTypesSpec)) llmnrTypesCard

/-- THE TIED CARD OF 'nomenclatorlaw04.MsgBack'. -/
def msgBackCard : Claim7 := { stood := { row := msgBackRow, standIns := [], harness := (true, "6afa14409c1fcf784e159d3dd9af9e0af6fc07a3d3e06aa2c8b4c577951ca517"), looks := false }, kinds := [], alts := [], laidByText := true, laidKinds := [.data], laidTests := true, laidLooks := .later }
def MsgBackCardSaid : Prop := Claim7.holds Tryd.pinned (.plain (OpenSpec.ofChange msgBackSpec)) msgBackCard

/-- THE TIED CARD OF 'nomenclatorlaw04.MsgAny'. -/
def msgAnyCard : Claim7 := { stood := { row := msgAnyRow, standIns := [], harness := (true, "6afa14409c1fcf784e159d3dd9af9e0af6fc07a3d3e06aa2c8b4c577951ca517"), looks := false }, kinds := [], alts := [], laidByText := true, laidKinds := [.data], laidTests := true, laidLooks := .later }
def MsgAnyCardSaid : Prop := Claim7.holds Tryd.pinned (.plain (OpenSpec.ofChange msgAnySpec)) msgAnyCard

/-- THE TIED CARD OF 'nomenclatorlaw04.MsgRight'. -/
def msgRightCard : Claim7 := { stood := { row := msgRightRow, standIns := [], harness := (true, "6afa14409c1fcf784e159d3dd9af9e0af6fc07a3d3e06aa2c8b4c577951ca517"), looks := false }, kinds := [], alts := [], laidByText := true, laidKinds := [.data], laidTests := true, laidLooks := .later }
def MsgRightCardSaid : Prop := Claim7.holds Tryd.pinned (.plain (OpenSpec.ofChange msgRightSpec)) msgRightCard

/-- THE TIED CARD OF 'nomenclatorlaw04.MsgPlaces'. -/
def msgPlacesCard : Claim7 := { stood := { row := msgPlacesRow, standIns := [], harness := (true, "6afa14409c1fcf784e159d3dd9af9e0af6fc07a3d3e06aa2c8b4c577951ca517"), looks := false }, kinds := [], alts := [], laidByText := true, laidKinds := [.data], laidTests := true, laidLooks := .later }
def MsgPlacesCardSaid : Prop := Claim7.holds Tryd.pinned (.plain (OpenSpec.ofChange msgPlacesSpec)) msgPlacesCard

/-- THE TIED CARD OF 'nomenclatorlaw04.MsgHeads'. -/
def msgHeadsCard : Claim7 := { stood := { row := msgHeadsRow, standIns := [], harness := (true, "6afa14409c1fcf784e159d3dd9af9e0af6fc07a3d3e06aa2c8b4c577951ca517"), looks := false }, kinds := [], alts := [], laidByText := true, laidKinds := [.data], laidTests := true, laidLooks := .later }
def MsgHeadsCardSaid : Prop := Claim7.holds Tryd.pinned (.plain (OpenSpec.ofChange msgHeadsSpec)) msgHeadsCard

/-- THE TIED CARD OF 'nomenclatorlaw04.MsgCapitals'. -/
def msgCapitalsCard : Claim7 := { stood := { row := msgCapitalsRow, standIns := [], harness := (true, "6afa14409c1fcf784e159d3dd9af9e0af6fc07a3d3e06aa2c8b4c577951ca517"), looks := false }, kinds := [], alts := [], laidByText := true, laidKinds := [.data], laidTests := true, laidLooks := .later }
def MsgCapitalsCardSaid : Prop := Claim7.holds Tryd.pinned (.plain (OpenSpec.ofChange msgCapitalsSpec)) msgCapitalsCard

/-- THE TIED CARD OF 'nomenclatorlaw04.MsgMore'. -/
def msgMoreCard : Claim7 := { stood := { row := msgMoreRow, standIns := [], harness := (true, "6afa14409c1fcf784e159d3dd9af9e0af6fc07a3d3e06aa2c8b4c577951ca517"), looks := false }, kinds := [], alts := [], laidByText := true, laidKinds := [.data], laidTests := true, laidLooks := .later }
def MsgMoreCardSaid : Prop := Claim7.holds Tryd.pinned (.plain (OpenSpec.ofChange msgMoreSpec)) msgMoreCard

/-- THE SECOND FORM's CARD OF 'nomenclatorlaw13.TransMatches'. -/
def transMatchesUptoCard : Claim7 := { stood := { row := transMatchesUptoRow, standIns := [], harness := (true, "6afa14409c1fcf784e159d3dd9af9e0af6fc07a3d3e06aa2c8b4c577951ca517"), looks := false }, kinds := [], alts := [], laidByText := true, laidKinds := [.data], laidTests := true, laidLooks := .later }
def TransMatchesUptoCardSaid : Prop := Claim7.holds Tryd.pinned (.plain (OpenSpec.upto transMatchesSpec)) transMatchesUptoCard

/-- THE SECOND FORM's CARD OF 'nomenclatorlaw13.TransDraws'. -/
def transDrawsUptoCard : Claim7 := { stood := { row := transDrawsUptoRow, standIns := [], harness := (true, "6afa14409c1fcf784e159d3dd9af9e0af6fc07a3d3e06aa2c8b4c577951ca517"), looks := false }, kinds := [], alts := [], laidByText := true, laidKinds := [.data], laidTests := true, laidLooks := .later }
def TransDrawsUptoCardSaid : Prop := Claim7.holds Tryd.pinned (.plain (OpenSpec.upto transDrawsSpec)) transDrawsUptoCard

/-- THE SECOND FORM's CARD OF 'nomenclatorlaw13.TransJunk'. -/
def transJunkUptoCard : Claim7 := { stood := { row := transJunkUptoRow, standIns := [], harness := (true, "6afa14409c1fcf784e159d3dd9af9e0af6fc07a3d3e06aa2c8b4c577951ca517"), looks := false }, kinds := [], alts := [], laidByText := true, laidKinds := [.data], laidTests := true, laidLooks := .later }
def TransJunkUptoCardSaid : Prop := Claim7.holds Tryd.pinned (.plain (OpenSpec.upto transJunkSpec)) transJunkUptoCard

/-- THE SECOND FORM's CARD OF 'nomenclatorlaw13.TransLong'. -/
def transLongUptoCard : Claim7 := { stood := { row := transLongUptoRow, standIns := [], harness := (true, "6afa14409c1fcf784e159d3dd9af9e0af6fc07a3d3e06aa2c8b4c577951ca517"), looks := false }, kinds := [], alts := [], laidByText := true, laidKinds := [.data], laidTests := true, laidLooks := .later }
def TransLongUptoCardSaid : Prop := Claim7.holds Tryd.pinned (.plain (OpenSpec.upto transLongSpec)) transLongUptoCard

/-- THE SECOND FORM's CARD OF 'nomenclatorlaw04.MsgJunk'. -/
def msgJunkUptoCard : Claim7 := { stood := { row := msgJunkUptoRow, standIns := [], harness := (true, "6afa14409c1fcf784e159d3dd9af9e0af6fc07a3d3e06aa2c8b4c577951ca517"), looks := false }, kinds := [], alts := [], laidByText := true, laidKinds := [.data], laidTests := true, laidLooks := .later }
def MsgJunkUptoCardSaid : Prop := Claim7.holds Tryd.pinned (.plain (OpenSpec.upto msgJunkSpec)) msgJunkUptoCard

/-- THE SECOND FORM's CARD OF 'nomenclatorlaw13.TransOthers'. -/
def transOthersUptoCard : Claim7 := { stood := { row := transOthersUptoRow, standIns := [], harness := (true, "6afa14409c1fcf784e159d3dd9af9e0af6fc07a3d3e06aa2c8b4c577951ca517"), looks := false }, kinds := [], alts := [], laidByText := true, laidKinds := [.data], laidTests := true, laidLooks := .later }
def TransOthersUptoCardSaid : Prop := Claim7.holds Tryd.pinned (.plain (OpenSpec.upto transOthersSpec)) transOthersUptoCard

/-- THE SECOND FORM's CARD OF 'nomenclatorlaw04.MsgCounts'. -/
def msgCountsUptoCard : Claim7 := { stood := { row := msgCountsUptoRow, standIns := [], harness := (true, "6afa14409c1fcf784e159d3dd9af9e0af6fc07a3d3e06aa2c8b4c577951ca517"), looks := false }, kinds := [], alts := [], laidByText := true, laidKinds := [.data], laidTests := true, laidLooks := .later }
def MsgCountsUptoCardSaid : Prop := Claim7.holds Tryd.pinned (.plain (OpenSpec.upto msgCountsSpec)) msgCountsUptoCard

/-- THE SECOND FORM's CARD OF 'nomenclatorlaw13.TransSends'. -/
def transSendsUptoCard : Claim7 := { stood := { row := transSendsUptoRow, standIns := [], harness := (true, "6afa14409c1fcf784e159d3dd9af9e0af6fc07a3d3e06aa2c8b4c577951ca517"), looks := false }, kinds := [], alts := [], laidByText := true, laidKinds := [.data], laidTests := true, laidLooks := .later }
def TransSendsUptoCardSaid : Prop := Claim7.holds Tryd.pinned (.plain (OpenSpec.upto transSendsSpec)) transSendsUptoCard

/-- THE SECOND FORM's CARD OF 'nomenclatorlaw14.LlmnrAnswers'. -/
def llmnrAnswersUptoCard : Claim7 := { stood := { row := llmnrAnswersUptoRow, standIns := [], harness := (true, "6afa14409c1fcf784e159d3dd9af9e0af6fc07a3d3e06aa2c8b4c577951ca517"), looks := false }, kinds := [], alts := [], laidByText := true, laidKinds := [.data], laidTests := true, laidLooks := .later }
def LlmnrAnswersUptoCardSaid : Prop := Claim7.holds Tryd.pinned (.plain (OpenSpec.upto llmnrAnswersSpec)) llmnrAnswersUptoCard

/-- THE SECOND FORM's CARD OF 'nomenclatorlaw14.LlmnrOnce'. -/
def llmnrOnceUptoCard : Claim7 := { stood := { row := llmnrOnceUptoRow, standIns := [], harness := (true, "6afa14409c1fcf784e159d3dd9af9e0af6fc07a3d3e06aa2c8b4c577951ca517"), looks := false }, kinds := [], alts := [], laidByText := true, laidKinds := [.data], laidTests := true, laidLooks := .later }
def LlmnrOnceUptoCardSaid : Prop := Claim7.holds Tryd.pinned (.plain (OpenSpec.upto llmnrOnceSpec)) llmnrOnceUptoCard

/-- THE SECOND FORM's CARD OF 'nomenclatorlaw14.LlmnrTypes'. -/
def llmnrTypesUptoCard : Claim7 := { stood := { row := llmnrTypesUptoRow, standIns := [], harness := (true, "6afa14409c1fcf784e159d3dd9af9e0af6fc07a3d3e06aa2c8b4c577951ca517"), looks := false }, kinds := [], alts := [], laidByText := true, laidKinds := [.data], laidTests := true, laidLooks := .later }
def LlmnrTypesUptoCardSaid : Prop := Claim7.holds Tryd.pinned (.plain (OpenSpec.upto llmnrTypesSpec)) llmnrTypesUptoCard

/-- THE SECOND FORM's CARD OF 'nomenclatorlaw04.MsgBack'. -/
def msgBackUptoCard : Claim7 := { stood := { row := msgBackUptoRow, standIns := [], harness := (true, "6afa14409c1fcf784e159d3dd9af9e0af6fc07a3d3e06aa2c8b4c577951ca517"), looks := false }, kinds := [], alts := [], laidByText := true, laidKinds := [.data], laidTests := true, laidLooks := .later }
def MsgBackUptoCardSaid : Prop := Claim7.holds Tryd.pinned (.plain (OpenSpec.upto msgBackSpec)) msgBackUptoCard

/-- THE SECOND FORM's CARD OF 'nomenclatorlaw04.MsgAny'. -/
def msgAnyUptoCard : Claim7 := { stood := { row := msgAnyUptoRow, standIns := [], harness := (true, "6afa14409c1fcf784e159d3dd9af9e0af6fc07a3d3e06aa2c8b4c577951ca517"), looks := false }, kinds := [], alts := [], laidByText := true, laidKinds := [.data], laidTests := true, laidLooks := .later }
def MsgAnyUptoCardSaid : Prop := Claim7.holds Tryd.pinned (.plain (OpenSpec.upto msgAnySpec)) msgAnyUptoCard

/-- THE SECOND FORM's CARD OF 'nomenclatorlaw04.MsgRight'. -/
def msgRightUptoCard : Claim7 := { stood := { row := msgRightUptoRow, standIns := [], harness := (true, "6afa14409c1fcf784e159d3dd9af9e0af6fc07a3d3e06aa2c8b4c577951ca517"), looks := false }, kinds := [], alts := [], laidByText := true, laidKinds := [.data], laidTests := true, laidLooks := .later }
def MsgRightUptoCardSaid : Prop := Claim7.holds Tryd.pinned (.plain (OpenSpec.upto msgRightSpec)) msgRightUptoCard

/-- THE SECOND FORM's CARD OF 'nomenclatorlaw04.MsgPlaces'. -/
def msgPlacesUptoCard : Claim7 := { stood := { row := msgPlacesUptoRow, standIns := [], harness := (true, "6afa14409c1fcf784e159d3dd9af9e0af6fc07a3d3e06aa2c8b4c577951ca517"), looks := false }, kinds := [], alts := [], laidByText := true, laidKinds := [.data], laidTests := true, laidLooks := .later }
def MsgPlacesUptoCardSaid : Prop := Claim7.holds Tryd.pinned (.plain (OpenSpec.upto msgPlacesSpec)) msgPlacesUptoCard

/-- THE SECOND FORM's CARD OF 'nomenclatorlaw04.MsgHeads'. -/
def msgHeadsUptoCard : Claim7 := { stood := { row := msgHeadsUptoRow, standIns := [], harness := (true, "6afa14409c1fcf784e159d3dd9af9e0af6fc07a3d3e06aa2c8b4c577951ca517"), looks := false }, kinds := [], alts := [], laidByText := true, laidKinds := [.data], laidTests := true, laidLooks := .later }
def MsgHeadsUptoCardSaid : Prop := Claim7.holds Tryd.pinned (.plain (OpenSpec.upto msgHeadsSpec)) msgHeadsUptoCard

/-- THE SECOND FORM's CARD OF 'nomenclatorlaw04.MsgCapitals'. -/
def msgCapitalsUptoCard : Claim7 := { stood := { row := msgCapitalsUptoRow, standIns := [], harness := (true, "6afa14409c1fcf784e159d3dd9af9e0af6fc07a3d3e06aa2c8b4c577951ca517"), looks := false }, kinds := [], alts := [], laidByText := true, laidKinds := [.data], laidTests := true, laidLooks := .later }
def MsgCapitalsUptoCardSaid : Prop := Claim7.holds Tryd.pinned (.plain (OpenSpec.upto msgCapitalsSpec)) msgCapitalsUptoCard

/-- THE SECOND FORM's CARD OF 'nomenclatorlaw04.MsgMore'. -/
def msgMoreUptoCard : Claim7 := { stood := { row := msgMoreUptoRow, standIns := [], harness := (true, "6afa14409c1fcf784e159d3dd9af9e0af6fc07a3d3e06aa2c8b4c577951ca517"), looks := false }, kinds := [], alts := [], laidByText := true, laidKinds := [.data], laidTests := true, laidLooks := .later }
def MsgMoreUptoCardSaid : Prop := Claim7.holds Tryd.pinned (.plain (OpenSpec.upto msgMoreSpec)) msgMoreUptoCard
end Rows
end Go.Proofs.YthcpjcgjmdfpjaaDoor
