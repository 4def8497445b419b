/- A part of the proof of the card of MsgLines. -/
import Derived.SevenTiedAt
import Derived.Test.YtjohcncekfcgpaaGreatDoorZMLs16
import Derived.Test.YtjohcncekfcgpaaGreatDoorTie
import Derived.Test.YtjohcncekfcgpaaGreatDoorCards
set_option linter.unusedVariables false
set_option linter.unusedSimpArgs false
section
set_option linter.unusedVariables false
namespace Go.Proofs.YtjohcncekfcgpaaGreatDoor
open Go.ChangeShapes Go.WideShapes Go.ChangeAt Go.RowKit
theorem P.msgLines_r1 : Tryz.pinned.checked.prog.funcNamed Rows.msgLinesRow.func = some 4 := by kernel_rfl
theorem P.msgLines_r2 : joinedFacts Tryz.pinned.checked.prog 4 Tryz.f4 Rows.msgLinesSpec Rows.msgLinesRow = true := by kernel_rfl
theorem P.msgLines_r3 : Tryz.f4.isInstance Tryz.pinned.checked.prog Rows.msgLinesRow.origin Rows.msgLinesRow.targs := (of_decide_eq_true (by kernel_rfl))
theorem P.msgLines_r4 : Tryz.f4.isWrapper Tryz.pinned.checked.prog Rows.msgLinesRow.wrapper Rows.msgLinesRow.mainSum := by unfold Func.isWrapper; first | (rw [if_pos (by decide +kernel)]; kernel_rfl) | (rw [if_neg (by decide +kernel)]; exact ⟨rfl, rfl⟩)
theorem P.msgLines_row (pure : P.MsgLinesPure) : Rows.MsgLinesSaid :=
  OpenClaim.holds_of_wide 4 Tryz.f4 rfl rfl rfl rfl rfl rfl rfl ⟨rfl, rfl, rfl, rfl, rfl⟩ rfl rfl rfl rfl rfl P.msgLines_r1 Tryz.func4 P.msgLines_r2 P.msgLines_r3 P.msgLines_r4
    (fun os started H enc _ => P.msgLines_lifted pure os started H enc)
theorem P.msgLines_c1 : Rows.msgLinesRow.wfByText (OpenSpec.ofChange Rows.msgLinesSpec) = true := by kernel_rfl
theorem P.msgLines_c2 : Tryz.pinned.checked.prog.mainIs = some (Rows.msgLinesCard.stood.harness.1, Rows.msgLinesCard.stood.harness.2.toList) := by kernel_rfl
theorem P.msgLines_c3 : false = Tryz.pinned.checked.prog.looks [] := by kernel_rfl
theorem P.msgLines_c4 : false = Rows.msgLinesRow.goesBy Tryz.pinned.checked.prog := by kernel_rfl
theorem P.msgLines_wmsg : Tryz.prog.wantsStandIn 31 = false := by kernel_rfl
theorem P.msgLines_c6 (f : FuncId) (fn : Func) (hf : Tryz.pinned.checked.prog.funcNamed Rows.msgLinesRow.func = some f) (hfn : Tryz.pinned.checked.prog.funcs[f]? = some fn) : false = Tryz.pinned.checked.prog.looks [] ∧ ∀ (j : Nat) t, fn.params[j]? = some t → Tryz.pinned.checked.prog.wantsStandIn t = false := by
  obtain rfl : f = 4 := (Option.some.inj (P.msgLines_r1.symm.trans hf)).symm
  obtain rfl : fn = Tryz.f4 := (Option.some.inj (Tryz.func4.symm.trans hfn)).symm
  refine ⟨P.msgLines_c3, fun j t ht => ?_⟩
  rw [Tryz.params4] at ht
  match j, ht with
  | 0, ht =>
    obtain rfl : t = 31 := by simpa using ht.symm
    exact P.msgLines_wmsg
  | j + 1, ht => simp at ht
theorem P.msgLines_card (pure : P.MsgLinesPure) : Rows.MsgLinesCardSaid :=
  Claim7.holds_tied_plain_at .later [] [.data, .pinned] true Rows.msgLinesCard.stood.harness false
    (P.msgLines_row pure) (fun _ h => by cases h) P.msgLines_c1 (fun _ h => by cases h) msgLines_row_tie rfl ⟨rfl, rfl⟩ P.msgLines_c2 rfl P.msgLines_c6 P.msgLines_c4
end Go.Proofs.YtjohcncekfcgpaaGreatDoor
end
