/-
  DERIVED. GIVEN WITH THE SEED: THE CARDS: each row of YtjohcncekfcgpaaGreatDoorRows.lean that lists a variable, with what it lists TIED to the program's text (the seventh form; the later family's looks); each row that meets fmt, with fmt's text TOLD by the authors' own Lean function (tested against real Go, not proved from fmt's source: count such statements apart). THE CARD IS WHAT COUNTS. Prove the row's statement (the work); the ties are given (YtjohcncekfcgpaaGreatDoorTie.lean); close each card by the builder's one call (the guide's Derived/Test/ToyasCard.lean, 'card_holds'). Laid BY PROGRAM, IN A SANDBOX (cutbox-door.mjs). By AI agents, Wed Nov 11 2026. No macro, syntax, notation, axiom, sorry.
-/
import Derived.Test.YtjohcncekfcgpaaGreatDoorRows
import GoSem.ClaimSeven
namespace Go.Proofs.YtjohcncekfcgpaaGreatDoor
namespace Rows

/-- THE TIED CARD OF 'bulletinlaw16.MsgReads'. -/
def msgReadsCard : Claim7 := { stood := { row := msgReadsRow, standIns := [], harness := (true, "e06c8a089d61e8ad2b07644fd965bcfaf39d4cd72ec2abf6192d8b1e0783668d"), looks := false }, kinds := [], alts := [], laidByText := true, laidKinds := [.data, .pinned], laidTests := true, laidLooks := .later }
def MsgReadsCardSaid : Prop := Claim7.holds Tryz.pinned (.plain (OpenSpec.ofChange msgReadsSpec)) msgReadsCard

/-- THE TIED CARD OF 'bulletinlaw16.MsgLines'. -/
def msgLinesCard : Claim7 := { stood := { row := msgLinesRow, standIns := [], harness := (true, "e06c8a089d61e8ad2b07644fd965bcfaf39d4cd72ec2abf6192d8b1e0783668d"), looks := false }, kinds := [], alts := [], laidByText := true, laidKinds := [.data, .pinned], laidTests := true, laidLooks := .later }
def MsgLinesCardSaid : Prop := Claim7.holds Tryz.pinned (.plain (OpenSpec.ofChange msgLinesSpec)) msgLinesCard

/-- THE TIED CARD OF 'bulletinlaw36.DressCopies'. -/
def dressCopiesCard : Claim7 := { stood := { row := dressCopiesRow, standIns := [], harness := (true, "e06c8a089d61e8ad2b07644fd965bcfaf39d4cd72ec2abf6192d8b1e0783668d"), looks := false }, kinds := [], alts := [], laidByText := true, laidKinds := [.data, .pinned], laidTests := true, laidLooks := .later }
def DressCopiesCardSaid : Prop := Claim7.holds Tryz.pinned (.plain (OpenSpec.ofChange dressCopiesSpec)) dressCopiesCard

/-- THE TIED CARD OF 'bulletinlaw16.MsgBack'. -/
def msgBackCard : Claim7 := { stood := { row := msgBackRow, standIns := [], harness := (true, "e06c8a089d61e8ad2b07644fd965bcfaf39d4cd72ec2abf6192d8b1e0783668d"), looks := false }, kinds := [], alts := [], laidByText := true, laidKinds := [.data, .pinned], laidTests := true, laidLooks := .later }
def MsgBackCardSaid : Prop := Claim7.holds Tryz.pinned (.plain (OpenSpec.ofChange msgBackSpec)) msgBackCard

/-- THE TIED CARD OF 'bulletinlaw16.MsgLong'. -/
def msgLongCard : Claim7 := { stood := { row := msgLongRow, standIns := [], harness := (true, "e06c8a089d61e8ad2b07644fd965bcfaf39d4cd72ec2abf6192d8b1e0783668d"), looks := false }, kinds := [], alts := [], laidByText := true, laidKinds := [.data, .pinned], laidTests := true, laidLooks := .later }
def MsgLongCardSaid : Prop := Claim7.holds Tryz.pinned (.plain (OpenSpec.ofChange msgLongSpec)) msgLongCard

/-- THE TIED CARD OF 'bulletinlaw16.MsgTells'. -/
def msgTellsCard : Claim7 := { stood := { row := msgTellsRow, standIns := [], harness := (true, "e06c8a089d61e8ad2b07644fd965bcfaf39d4cd72ec2abf6192d8b1e0783668d"), looks := false }, kinds := [], alts := [], laidByText := true, laidKinds := [.data, .pinned], laidTests := true, laidLooks := .later }
def MsgTellsCardSaid : Prop := Claim7.holds Tryz.pinned (.plain (OpenSpec.ofChange msgTellsSpec)) msgTellsCard

/-- THE TIED CARD OF 'bulletinlaw16.MsgWith'. -/
def msgWithCard : Claim7 := { stood := { row := msgWithRow, standIns := [], harness := (true, "e06c8a089d61e8ad2b07644fd965bcfaf39d4cd72ec2abf6192d8b1e0783668d"), looks := false }, kinds := [], alts := [], laidByText := true, laidKinds := [.data, .pinned], laidTests := true, laidLooks := .later }
def MsgWithCardSaid : Prop := Claim7.holds Tryz.pinned (.plain (OpenSpec.ofChange msgWithSpec)) msgWithCard

/-- THE TIED CARD OF 'bulletinlaw35.OrderReads'. -/
def orderReadsCard : Claim7 := { stood := { row := orderReadsRow, standIns := [], harness := (true, "e06c8a089d61e8ad2b07644fd965bcfaf39d4cd72ec2abf6192d8b1e0783668d"), looks := false }, kinds := [], alts := [], laidByText := true, laidKinds := [.data, .pinned], laidTests := true, laidLooks := .later }
def OrderReadsCardSaid : Prop := Claim7.holds Tryz.pinned (.plain (OpenSpec.ofChange orderReadsSpec)) orderReadsCard

/-- THE TIED CARD OF 'bulletinlaw35.OrderFew'. -/
def orderFewCard : Claim7 := { stood := { row := orderFewRow, standIns := [], harness := (true, "e06c8a089d61e8ad2b07644fd965bcfaf39d4cd72ec2abf6192d8b1e0783668d"), looks := false }, kinds := [], alts := [], laidByText := true, laidKinds := [.data, .pinned], laidTests := true, laidLooks := .later }
def OrderFewCardSaid : Prop := Claim7.holds Tryz.pinned (.plain (OpenSpec.ofChange orderFewSpec)) orderFewCard

/-- THE TIED CARD OF 'bulletinlaw34.RightsJudge'. -/
def rightsJudgeCard : Claim7 := { stood := { row := rightsJudgeRow, standIns := [], harness := (true, "e06c8a089d61e8ad2b07644fd965bcfaf39d4cd72ec2abf6192d8b1e0783668d"), looks := false }, kinds := [], alts := [], laidByText := true, laidKinds := [.data, .pinned], laidTests := true, laidLooks := .later }
def RightsJudgeCardSaid : Prop := Claim7.holds Tryz.pinned (.plain (OpenSpec.ofChange rightsJudgeSpec)) rightsJudgeCard

/-- THE TIED CARD OF 'bulletinlaw34.RightsLoop'. -/
def rightsLoopCard : Claim7 := { stood := { row := rightsLoopRow, standIns := [], harness := (true, "e06c8a089d61e8ad2b07644fd965bcfaf39d4cd72ec2abf6192d8b1e0783668d"), looks := false }, kinds := [], alts := [], laidByText := true, laidKinds := [.data, .pinned], laidTests := true, laidLooks := .later }
def RightsLoopCardSaid : Prop := Claim7.holds Tryz.pinned (.plain (OpenSpec.ofChange rightsLoopSpec)) rightsLoopCard

/-- THE TIED CARD OF 'bulletinlaw34.RightsMore'. -/
def rightsMoreCard : Claim7 := { stood := { row := rightsMoreRow, standIns := [], harness := (true, "e06c8a089d61e8ad2b07644fd965bcfaf39d4cd72ec2abf6192d8b1e0783668d"), looks := false }, kinds := [], alts := [], laidByText := true, laidKinds := [.data, .pinned], laidTests := true, laidLooks := .later }
def RightsMoreCardSaid : Prop := Claim7.holds Tryz.pinned (.plain (OpenSpec.ofChange rightsMoreSpec)) rightsMoreCard

/-- THE SECOND FORM's CARD OF 'bulletinlaw16.MsgReads'. -/
def msgReadsUptoCard : Claim7 := { stood := { row := msgReadsUptoRow, standIns := [], harness := (true, "e06c8a089d61e8ad2b07644fd965bcfaf39d4cd72ec2abf6192d8b1e0783668d"), looks := false }, kinds := [], alts := [], laidByText := true, laidKinds := [.data, .pinned], laidTests := true, laidLooks := .later }
def MsgReadsUptoCardSaid : Prop := Claim7.holds Tryz.pinned (.plain (OpenSpec.upto msgReadsSpec)) msgReadsUptoCard

/-- THE SECOND FORM's CARD OF 'bulletinlaw16.MsgLines'. -/
def msgLinesUptoCard : Claim7 := { stood := { row := msgLinesUptoRow, standIns := [], harness := (true, "e06c8a089d61e8ad2b07644fd965bcfaf39d4cd72ec2abf6192d8b1e0783668d"), looks := false }, kinds := [], alts := [], laidByText := true, laidKinds := [.data, .pinned], laidTests := true, laidLooks := .later }
def MsgLinesUptoCardSaid : Prop := Claim7.holds Tryz.pinned (.plain (OpenSpec.upto msgLinesSpec)) msgLinesUptoCard

/-- THE SECOND FORM's CARD OF 'bulletinlaw36.DressCopies'. -/
def dressCopiesUptoCard : Claim7 := { stood := { row := dressCopiesUptoRow, standIns := [], harness := (true, "e06c8a089d61e8ad2b07644fd965bcfaf39d4cd72ec2abf6192d8b1e0783668d"), looks := false }, kinds := [], alts := [], laidByText := true, laidKinds := [.data, .pinned], laidTests := true, laidLooks := .later }
def DressCopiesUptoCardSaid : Prop := Claim7.holds Tryz.pinned (.plain (OpenSpec.upto dressCopiesSpec)) dressCopiesUptoCard

/-- THE SECOND FORM's CARD OF 'bulletinlaw16.MsgBack'. -/
def msgBackUptoCard : Claim7 := { stood := { row := msgBackUptoRow, standIns := [], harness := (true, "e06c8a089d61e8ad2b07644fd965bcfaf39d4cd72ec2abf6192d8b1e0783668d"), looks := false }, kinds := [], alts := [], laidByText := true, laidKinds := [.data, .pinned], laidTests := true, laidLooks := .later }
def MsgBackUptoCardSaid : Prop := Claim7.holds Tryz.pinned (.plain (OpenSpec.upto msgBackSpec)) msgBackUptoCard

/-- THE SECOND FORM's CARD OF 'bulletinlaw16.MsgLong'. -/
def msgLongUptoCard : Claim7 := { stood := { row := msgLongUptoRow, standIns := [], harness := (true, "e06c8a089d61e8ad2b07644fd965bcfaf39d4cd72ec2abf6192d8b1e0783668d"), looks := false }, kinds := [], alts := [], laidByText := true, laidKinds := [.data, .pinned], laidTests := true, laidLooks := .later }
def MsgLongUptoCardSaid : Prop := Claim7.holds Tryz.pinned (.plain (OpenSpec.upto msgLongSpec)) msgLongUptoCard

/-- THE SECOND FORM's CARD OF 'bulletinlaw16.MsgTells'. -/
def msgTellsUptoCard : Claim7 := { stood := { row := msgTellsUptoRow, standIns := [], harness := (true, "e06c8a089d61e8ad2b07644fd965bcfaf39d4cd72ec2abf6192d8b1e0783668d"), looks := false }, kinds := [], alts := [], laidByText := true, laidKinds := [.data, .pinned], laidTests := true, laidLooks := .later }
def MsgTellsUptoCardSaid : Prop := Claim7.holds Tryz.pinned (.plain (OpenSpec.upto msgTellsSpec)) msgTellsUptoCard

/-- THE SECOND FORM's CARD OF 'bulletinlaw16.MsgWith'. -/
def msgWithUptoCard : Claim7 := { stood := { row := msgWithUptoRow, standIns := [], harness := (true, "e06c8a089d61e8ad2b07644fd965bcfaf39d4cd72ec2abf6192d8b1e0783668d"), looks := false }, kinds := [], alts := [], laidByText := true, laidKinds := [.data, .pinned], laidTests := true, laidLooks := .later }
def MsgWithUptoCardSaid : Prop := Claim7.holds Tryz.pinned (.plain (OpenSpec.upto msgWithSpec)) msgWithUptoCard

/-- THE SECOND FORM's CARD OF 'bulletinlaw35.OrderReads'. -/
def orderReadsUptoCard : Claim7 := { stood := { row := orderReadsUptoRow, standIns := [], harness := (true, "e06c8a089d61e8ad2b07644fd965bcfaf39d4cd72ec2abf6192d8b1e0783668d"), looks := false }, kinds := [], alts := [], laidByText := true, laidKinds := [.data, .pinned], laidTests := true, laidLooks := .later }
def OrderReadsUptoCardSaid : Prop := Claim7.holds Tryz.pinned (.plain (OpenSpec.upto orderReadsSpec)) orderReadsUptoCard

/-- THE SECOND FORM's CARD OF 'bulletinlaw35.OrderFew'. -/
def orderFewUptoCard : Claim7 := { stood := { row := orderFewUptoRow, standIns := [], harness := (true, "e06c8a089d61e8ad2b07644fd965bcfaf39d4cd72ec2abf6192d8b1e0783668d"), looks := false }, kinds := [], alts := [], laidByText := true, laidKinds := [.data, .pinned], laidTests := true, laidLooks := .later }
def OrderFewUptoCardSaid : Prop := Claim7.holds Tryz.pinned (.plain (OpenSpec.upto orderFewSpec)) orderFewUptoCard

/-- THE SECOND FORM's CARD OF 'bulletinlaw34.RightsJudge'. -/
def rightsJudgeUptoCard : Claim7 := { stood := { row := rightsJudgeUptoRow, standIns := [], harness := (true, "e06c8a089d61e8ad2b07644fd965bcfaf39d4cd72ec2abf6192d8b1e0783668d"), looks := false }, kinds := [], alts := [], laidByText := true, laidKinds := [.data, .pinned], laidTests := true, laidLooks := .later }
def RightsJudgeUptoCardSaid : Prop := Claim7.holds Tryz.pinned (.plain (OpenSpec.upto rightsJudgeSpec)) rightsJudgeUptoCard

/-- THE SECOND FORM's CARD OF 'bulletinlaw34.RightsLoop'. -/
def rightsLoopUptoCard : Claim7 := { stood := { row := rightsLoopUptoRow, standIns := [], harness := (true, "e06c8a089d61e8ad2b07644fd965bcfaf39d4cd72ec2abf6192d8b1e0783668d"), looks := false }, kinds := [], alts := [], laidByText := true, laidKinds := [.data, .pinned], laidTests := true, laidLooks := .later }
def RightsLoopUptoCardSaid : Prop := Claim7.holds Tryz.pinned (.plain (OpenSpec.upto rightsLoopSpec)) rightsLoopUptoCard

/-- THE SECOND FORM's CARD OF 'bulletinlaw34.RightsMore'. -/
def rightsMoreUptoCard : Claim7 := { stood := { row := rightsMoreUptoRow, standIns := [], harness := (true, "e06c8a089d61e8ad2b07644fd965bcfaf39d4cd72ec2abf6192d8b1e0783668d"), looks := false }, kinds := [], alts := [], laidByText := true, laidKinds := [.data, .pinned], laidTests := true, laidLooks := .later }
def RightsMoreUptoCardSaid : Prop := Claim7.holds Tryz.pinned (.plain (OpenSpec.upto rightsMoreSpec)) rightsMoreUptoCard
end Rows
end Go.Proofs.YtjohcncekfcgpaaGreatDoor
