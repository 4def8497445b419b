/- A part of the proof of the card of MsgLines. -/
import Derived.Test.YtjohcncekfcgpaaGreatDoorZMLs04
import Derived.Test.YtjohcncekfcgpaaGreatDoorZMLs10
import Derived.Test.YtjohcncekfcgpaaGreatDoorZMLs07
set_option linter.unusedVariables false
set_option linter.unusedSimpArgs false
section
namespace Go.Proofs.YtjohcncekfcgpaaGreatDoor.P
open Go.RowKit Go.Proofs.YtjohcncekfcgpaaGreatDoorW.PrintWords
theorem works16_at : bulletinlaw16_works.f 60 = some true := by kernel_rfl
theorem works16_ev : Ev (fun k => bulletinlaw16_works.f k) true := Ev.of bulletinlaw16_works.mono works16_at
end Go.Proofs.YtjohcncekfcgpaaGreatDoor.P
end
section
namespace Go.Proofs.YtjohcncekfcgpaaGreatDoor.P
open Go.RowKit Go.Proofs.YtjohcncekfcgpaaGreatDoorW.PrintWords
theorem refL_len : ∀ (n : Nat) (l w : List UInt8), l.length ≤ n → (refL l w).length ≤ l.length + 1
  | 0, l, w, h => by
    obtain rfl : l = [] := List.length_eq_zero_iff.1 (by omega)
    unfold refL; split <;> simp
  | n + 1, [], w, h => by unfold refL; split <;> simp
  | n + 1, b :: l, w, h => by
    unfold refL
    simp only [List.length_cons] at h
    split
    · cases l with
      | nil => simp
      | cons c l =>
        simp only [List.length_cons] at h
        have := refL_len n l [] (by omega)
        simp only [List.length_cons]; omega
    · have := refL_len n l (w ++ [b]) (by omega)
      simp only [List.length_cons]; omega
theorem MsgLines_pure (l : List (S70)) (a : ByteArray) : ∃ k, bulletinlaw16_MsgLines.f k l a = some true := by
  apply Ev.rounds
  unfold bulletinlaw16_MsgLines.f
  by_cases c : (a.size : Int) > 3000
  · exact Ev.pos c (Ev.bind works16_ev (Ev.const rfl))
  · refine Ev.neg c (Ev.bind (msg_Lines_ev [] a (by omega)) (Ev.bind (ref16_Lines_ev [] a (by omega)) (Ev.bind (sameTexts_ev _ ?_) (Ev.pos rfl (Ev.bind works16_ev (Ev.const rfl))))))
    have := refL_len a.data.toList.length a.data.toList [] (Nat.le_refl _)
    have hs := size_list a
    rw [List.length_map]; unfold linesL; omega
end Go.Proofs.YtjohcncekfcgpaaGreatDoor.P
end
