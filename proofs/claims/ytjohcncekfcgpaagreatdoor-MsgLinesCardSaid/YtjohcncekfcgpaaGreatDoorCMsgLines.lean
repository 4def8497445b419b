/- The card of MsgLines: its row, out of its plain law and of what the code computes; no condition beside the given statement. -/
import Derived.Test.YtjohcncekfcgpaaGreatDoorZMLs17
import Derived.Test.YtjohcncekfcgpaaGreatDoorZMLs11
set_option linter.unusedVariables false
set_option linter.unusedSimpArgs false
section
namespace Go.Proofs.YtjohcncekfcgpaaGreatDoor
theorem msgLines_card_holds : Rows.MsgLinesCardSaid := P.msgLines_card P.MsgLines_pure
end Go.Proofs.YtjohcncekfcgpaaGreatDoor
end
