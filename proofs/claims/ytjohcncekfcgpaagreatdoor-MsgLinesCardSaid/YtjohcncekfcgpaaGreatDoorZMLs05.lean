/- A part of the proof of the card of MsgLines. -/
import Derived.Test.YtjohcncekfcgpaaGreatDoorZMLs02
import Derived.Test.YtjohcncekfcgpaaGreatDoorZMLs04
set_option linter.unusedVariables false
set_option linter.unusedSimpArgs false
section
namespace Go.Proofs.YtjohcncekfcgpaaGreatDoor.P
open Go.RowKit Go.Proofs.YtjohcncekfcgpaaGreatDoorW.PrintWords Go.Proofs.YtjohcncekfcgpaaGreatDoorW.PrintLast Go.Proofs.YtjohcncekfcgpaaGreatDoorW.PrintMore
attribute [local go_sem] max2_int min2_int max_two min_two max_three min_three max_four min_four
set_option linter.unusedVariables false
set_option linter.unusedSimpArgs false
def addr_labelled.f (a0 : Int) : Option (Bool) := if a0 ≥ 97 then (if a0 ≤ 122 then (some true) else (if a0 ≥ 65 then (if a0 ≤ 90 then (some true) else (if a0 ≥ 48 then (if a0 ≤ 57 then (some true) else (some (a0 == 45))) else (some (a0 == 45)))) else (if a0 ≥ 48 then (if a0 ≤ 57 then (some true) else (some (a0 == 45))) else (some (a0 == 45))))) else (if a0 ≥ 65 then (if a0 ≤ 90 then (some true) else (if a0 ≥ 48 then (if a0 ≤ 57 then (some true) else (some (a0 == 45))) else (some (a0 == 45)))) else (if a0 ≥ 48 then (if a0 ≤ 57 then (some true) else (some (a0 == 45))) else (some (a0 == 45))))
set_option maxHeartbeats 8000000 in
set_option maxRecDepth 100000 in
theorem addr_labelled.calls (a0 : Int) (r : Bool) (w : World) (h : addr_labelled.f a0 = some r) :
    Calls Tryz.prog 284 #[.int .u8 a0] w fun e w' => e = .returned (.bool r) ∧ Drawn0 w w' := by
  have H : (if a0 ≥ 97 then (if a0 ≤ 122 then (some true) else (if a0 ≥ 65 then (if a0 ≤ 90 then (some true) else (if a0 ≥ 48 then (if a0 ≤ 57 then (some true) else (some (a0 == 45))) else (some (a0 == 45)))) else (if a0 ≥ 48 then (if a0 ≤ 57 then (some true) else (some (a0 == 45))) else (some (a0 == 45))))) else (if a0 ≥ 65 then (if a0 ≤ 90 then (some true) else (if a0 ≥ 48 then (if a0 ≤ 57 then (some true) else (some (a0 == 45))) else (some (a0 == 45)))) else (if a0 ≥ 48 then (if a0 ≤ 57 then (some true) else (some (a0 == 45))) else (some (a0 == 45))))) = some r := h
  clear h
  by_cases c2 : a0 ≥ 97
  · rw [if_pos c2] at H
    have c2b0 : decide (97 ≤ a0) = true := decide_eq_true c2
    clear c2
    by_cases c3 : a0 ≤ 122
    · rw [if_pos c3] at H
      have c3b0 : decide (a0 ≤ 122) = true := decide_eq_true c3
      clear c3
      obtain rfl := Option.some.inj H
      go_enter Tryz.func284, Tryz.ntmps284
      go_wp2
      go_ret
      exact ⟨eqv, dr⟩
    · rw [if_neg c3] at H
      have c3b0 : decide (a0 ≤ 122) = false := decide_eq_false c3
      clear c3
      by_cases c4 : a0 ≥ 65
      · rw [if_pos c4] at H
        have c4b0 : decide (65 ≤ a0) = true := decide_eq_true c4
        clear c4
        by_cases c5 : a0 ≤ 90
        · rw [if_pos c5] at H
          have c5b0 : decide (a0 ≤ 90) = true := decide_eq_true c5
          clear c5
          obtain rfl := Option.some.inj H
          go_enter Tryz.func284, Tryz.ntmps284
          go_wp2
          go_ret
          exact ⟨eqv, dr⟩
        · rw [if_neg c5] at H
          have c5b0 : decide (a0 ≤ 90) = false := decide_eq_false c5
          clear c5
          by_cases c6 : a0 ≥ 48
          · rw [if_pos c6] at H
            have c6b0 : decide (48 ≤ a0) = true := decide_eq_true c6
            clear c6
            by_cases c7 : a0 ≤ 57
            · rw [if_pos c7] at H
              have c7b0 : decide (a0 ≤ 57) = true := decide_eq_true c7
              clear c7
              obtain rfl := Option.some.inj H
              go_enter Tryz.func284, Tryz.ntmps284
              go_wp2
              go_ret
              exact ⟨eqv, dr⟩
            · rw [if_neg c7] at H
              have c7b0 : decide (a0 ≤ 57) = false := decide_eq_false c7
              clear c7
              obtain rfl := Option.some.inj H
              go_enter Tryz.func284, Tryz.ntmps284
              go_wp2
              go_ret
              exact ⟨eqv, dr⟩
          · rw [if_neg c6] at H
            have c6b0 : decide (48 ≤ a0) = false := decide_eq_false c6
            clear c6
            obtain rfl := Option.some.inj H
            go_enter Tryz.func284, Tryz.ntmps284
            go_wp2
            go_ret
            exact ⟨eqv, dr⟩
      · rw [if_neg c4] at H
        have c4b0 : decide (65 ≤ a0) = false := decide_eq_false c4
        clear c4
        by_cases c8 : a0 ≥ 48
        · rw [if_pos c8] at H
          have c8b0 : decide (48 ≤ a0) = true := decide_eq_true c8
          clear c8
          by_cases c9 : a0 ≤ 57
          · rw [if_pos c9] at H
            have c9b0 : decide (a0 ≤ 57) = true := decide_eq_true c9
            clear c9
            obtain rfl := Option.some.inj H
            go_enter Tryz.func284, Tryz.ntmps284
            go_wp2
            go_ret
            exact ⟨eqv, dr⟩
          · rw [if_neg c9] at H
            have c9b0 : decide (a0 ≤ 57) = false := decide_eq_false c9
            clear c9
            obtain rfl := Option.some.inj H
            go_enter Tryz.func284, Tryz.ntmps284
            go_wp2
            go_ret
            exact ⟨eqv, dr⟩
        · rw [if_neg c8] at H
          have c8b0 : decide (48 ≤ a0) = false := decide_eq_false c8
          clear c8
          obtain rfl := Option.some.inj H
          go_enter Tryz.func284, Tryz.ntmps284
          go_wp2
          go_ret
          exact ⟨eqv, dr⟩
  · rw [if_neg c2] at H
    have c2b0 : decide (97 ≤ a0) = false := decide_eq_false c2
    clear c2
    by_cases c10 : a0 ≥ 65
    · rw [if_pos c10] at H
      have c10b0 : decide (65 ≤ a0) = true := decide_eq_true c10
      clear c10
      by_cases c11 : a0 ≤ 90
      · rw [if_pos c11] at H
        have c11b0 : decide (a0 ≤ 90) = true := decide_eq_true c11
        clear c11
        obtain rfl := Option.some.inj H
        go_enter Tryz.func284, Tryz.ntmps284
        go_wp2
        go_ret
        exact ⟨eqv, dr⟩
      · rw [if_neg c11] at H
        have c11b0 : decide (a0 ≤ 90) = false := decide_eq_false c11
        clear c11
        by_cases c12 : a0 ≥ 48
        · rw [if_pos c12] at H
          have c12b0 : decide (48 ≤ a0) = true := decide_eq_true c12
          clear c12
          by_cases c13 : a0 ≤ 57
          · rw [if_pos c13] at H
            have c13b0 : decide (a0 ≤ 57) = true := decide_eq_true c13
            clear c13
            obtain rfl := Option.some.inj H
            go_enter Tryz.func284, Tryz.ntmps284
            go_wp2
            go_ret
            exact ⟨eqv, dr⟩
          · rw [if_neg c13] at H
            have c13b0 : decide (a0 ≤ 57) = false := decide_eq_false c13
            clear c13
            obtain rfl := Option.some.inj H
            go_enter Tryz.func284, Tryz.ntmps284
            go_wp2
            go_ret
            exact ⟨eqv, dr⟩
        · rw [if_neg c12] at H
          have c12b0 : decide (48 ≤ a0) = false := decide_eq_false c12
          clear c12
          obtain rfl := Option.some.inj H
          go_enter Tryz.func284, Tryz.ntmps284
          go_wp2
          go_ret
          exact ⟨eqv, dr⟩
    · rw [if_neg c10] at H
      have c10b0 : decide (65 ≤ a0) = false := decide_eq_false c10
      clear c10
      by_cases c14 : a0 ≥ 48
      · rw [if_pos c14] at H
        have c14b0 : decide (48 ≤ a0) = true := decide_eq_true c14
        clear c14
        by_cases c15 : a0 ≤ 57
        · rw [if_pos c15] at H
          have c15b0 : decide (a0 ≤ 57) = true := decide_eq_true c15
          clear c15
          obtain rfl := Option.some.inj H
          go_enter Tryz.func284, Tryz.ntmps284
          go_wp2
          go_ret
          exact ⟨eqv, dr⟩
        · rw [if_neg c15] at H
          have c15b0 : decide (a0 ≤ 57) = false := decide_eq_false c15
          clear c15
          obtain rfl := Option.some.inj H
          go_enter Tryz.func284, Tryz.ntmps284
          go_wp2
          go_ret
          exact ⟨eqv, dr⟩
      · rw [if_neg c14] at H
        have c14b0 : decide (48 ≤ a0) = false := decide_eq_false c14
        clear c14
        obtain rfl := Option.some.inj H
        go_enter Tryz.func284, Tryz.ntmps284
        go_wp2
        go_ret
        exact ⟨eqv, dr⟩
end Go.Proofs.YtjohcncekfcgpaaGreatDoor.P
end
section
namespace Go.Proofs.YtjohcncekfcgpaaGreatDoor.P
open Go.RowKit Go.Proofs.YtjohcncekfcgpaaGreatDoorW.PrintWords Go.Proofs.YtjohcncekfcgpaaGreatDoorW.PrintLast Go.Proofs.YtjohcncekfcgpaaGreatDoorW.PrintMore
attribute [local go_sem] max2_int min2_int max_two min_two max_three min_three max_four min_four
set_option linter.unusedVariables false
set_option linter.unusedSimpArgs false
def addr_label.l0 : Nat → ByteArray → Int → Int → Option (Bool)
  | 0, _, _, _ => none
  | k + 1, x0, x5, x6 => if x6 < x5 then (if 0 ≤ x6 then (if x6 < (x0.size : Int) then ((addr_labelled.f (bt x0 x6)).bind fun t1202 => (if t1202 = true then (addr_label.l0 k x0 x5 (wrap64 (x6 + 1))) else (some false))) else (none)) else (none)) else (if x0.toList = ([] : List UInt8) then (some false) else (if 0 < (x0.size : Int) then (if (bt x0 0) = 45 then (some false) else (if 0 ≤ (wrap64 ((x0.size : Int) - 1)) then (if (wrap64 ((x0.size : Int) - 1)) < (x0.size : Int) then (some ((bt x0 (wrap64 ((x0.size : Int) - 1))) != 45)) else (none)) else (none))) else (none)))
def addr_label.f (k : Nat) (a0 : ByteArray) : Option (Bool) := addr_label.l0 k a0 (a0.size : Int) 0
theorem addr_label.mono_l : ∀ k, (∀ y0 y1 y2, LeO (addr_label.l0 k y0 y1 y2) (addr_label.l0 (k + 1) y0 y1 y2))
  | 0 => fun _ _ _ r h => by simp [addr_label.l0] at h
  | k + 1 => by
    have ih0 := addr_label.mono_l k
    · intro y0 y1 y2
      unfold addr_label.l0
      repeat' first
      | (with_reducible exact ih0 _ _ _)
      | (with_reducible exact LeO.refl _)
      | (with_reducible exact LeO.none _)
      | (with_reducible refine LeO.ite ?_ ?_)
      | (with_reducible refine LeO.bind ?_ (fun _ => ?_))
      | exact ih0 _ _ _
      | exact LeO.none _
      | refine LeO.ite ?_ ?_
      | refine LeO.bind ?_ (fun _ => ?_)
theorem addr_label.mono : ∀ a0 k, LeO (addr_label.f k a0) (addr_label.f (k + 1) a0) := by
  intro a0 k
  have ih0 := addr_label.mono_l k
  unfold addr_label.f
  repeat' first
      | (with_reducible exact ih0 _ _ _)
      | (with_reducible exact LeO.refl _)
      | (with_reducible exact LeO.none _)
      | (with_reducible refine LeO.ite ?_ ?_)
      | (with_reducible refine LeO.bind ?_ (fun _ => ?_))
      | exact ih0 _ _ _
      | exact LeO.none _
      | refine LeO.ite ?_ ?_
      | refine LeO.bind ?_ (fun _ => ?_)
set_option maxHeartbeats 8000000 in
set_option maxRecDepth 100000 in
theorem addr_label.calls (k : Nat) (a0 : ByteArray) (r : Bool) (w : World) (h : addr_label.f k a0 = some r) :
    Calls Tryz.prog 281 #[.string a0] w fun e w' => e = .returned (.bool r) ∧ Drawn0 w w' := by
  have H : (addr_label.l0 k a0 (a0.size : Int) 0) = some r := h
  clear h
  have H' := Aside0.mk H
  clear H
  go_enter Tryz.func281, Tryz.ntmps281
  go_wp2
  go_loopg [6] k (fun kq v6 w' => ∃ (x6_1 : Int), v6 = .int .i64 x6_1 ∧ Aside0 (addr_label.l0 kq a0 (a0.size : Int) x6_1 = some r) ∧ Aside0 (kq ≤ k) ∧ Drawn0 w w')
  case atStart => exact ⟨(0), eqv, H', ⟨Nat.le_refl _⟩, dr⟩
  case round =>
    clear H'
    obtain ⟨x6_1, rfl, HA, HK1, ⟨m1, rfl⟩⟩ := hrel
    cases gk with
    | zero => exact absurd HA.out (by simp [addr_label.l0])
    | succ k1 =>
      have H := HA.out
      clear HA
      simp only [addr_label.l0] at H
      by_cases c2 : x6_1 < (a0.size : Int)
      · rw [if_pos c2] at H
        have c2b0 : decide (x6_1 < (a0.size : Int)) = true := decide_eq_true c2
        clear c2
        by_cases c3 : 0 ≤ x6_1
        · rw [if_pos c3] at H
          have c3b0 : decide (0 ≤ x6_1) = true := decide_eq_true c3
          clear c3
          by_cases c4 : x6_1 < (a0.size : Int)
          · rw [if_pos c4] at H
            have c4b0 : decide (x6_1 < (a0.size : Int)) = true := decide_eq_true c4
            clear c4
            replace H := Option.bind_eq_some_iff.mp H
            obtain ⟨t1202, A60, H⟩ := H
            replace H : (if t1202 = true then (addr_label.l0 k1 a0 (a0.size : Int) (wrap64 (x6_1 + 1))) else (some false)) = some r := H
            have A6 := Aside0.mk A60
            clear A60
            by_cases c7 : t1202 = true
            · subst c7
              have H1 : (addr_label.l0 k1 a0 (a0.size : Int) (wrap64 (x6_1 + 1))) = some r := by rw [if_pos rfl] at H; exact H
              clear H
              have H := H1
              clear H1
              have H' := Aside0.mk H
              clear H
              have p5 : 0 ≤ (x6_1 : Int) := of_decide_eq_true asm
              have q5 : x6_1 < (a0.size : Int) := of_decide_eq_true asm
              have hx5 := bt_at a0 x6_1
              replace p5 := eq_true p5
              replace q5 := eq_true q5
              go_wp2_with (first | ((with_reducible refine gate_callee (f := 284) rfl ?_); refine goesM (some 12) Tryz.func284 #[.int .u8 (bt a0 x6_1)] ?_; (with_reducible refine (addr_labelled.calls (bt a0 x6_1) true _ A6.out).mono ?_); rintro e w' ⟨rfl, ⟨nd, rfl⟩⟩; refine ⟨_, rfl, ?_⟩))
              go_roundg k1
              case measure => have := HK1.out; omega
              case rel => exact ⟨(wrap64 (x6_1 + 1)), eqv, H', ⟨by have := HK1.out; omega⟩, dr⟩
            · replace c7 := Bool.eq_false_iff.mpr c7
              subst c7
              have H1 : (some false) = some r := by rw [if_neg (show ¬ (false = true) by decide)] at H; exact H
              clear H
              have H := H1
              clear H1
              obtain rfl := Option.some.inj H
              have p5 : 0 ≤ (x6_1 : Int) := of_decide_eq_true asm
              have q5 : x6_1 < (a0.size : Int) := of_decide_eq_true asm
              have hx5 := bt_at a0 x6_1
              replace p5 := eq_true p5
              replace q5 := eq_true q5
              go_wp2_with (first | ((with_reducible refine gate_callee (f := 284) rfl ?_); refine goesM (some 12) Tryz.func284 #[.int .u8 (bt a0 x6_1)] ?_; (with_reducible refine (addr_labelled.calls (bt a0 x6_1) false _ A6.out).mono ?_); rintro e w' ⟨rfl, ⟨nd, rfl⟩⟩; refine ⟨_, rfl, ?_⟩))
              go_ret
              exact ⟨eqv, dr⟩
          · rw [if_neg c4] at H
            exact absurd H (by simp)
        · rw [if_neg c3] at H
          exact absurd H (by simp)
      · rw [if_neg c2] at H
        have c2b0 : decide (x6_1 < (a0.size : Int)) = false := decide_eq_false c2
        clear c2
        by_cases c8 : a0.toList = ([] : List UInt8)
        · rw [if_pos c8] at H
          have c8b0 : (a0.toList == ([] : List UInt8)) = true := beq_iff_eq.mpr c8
          have c8b1 : (a0.toList != ([] : List UInt8)) = false := bne_eq_false_iff_eq.mpr c8
          have c8bE : (a0.toList).isEmpty = true := List.isEmpty_iff.mpr c8
          clear c8
          obtain rfl := Option.some.inj H
          go_wp2
          go_ret
          exact ⟨eqv, dr⟩
        · rw [if_neg c8] at H
          have c8b0 : (a0.toList == ([] : List UInt8)) = false := beq_eq_false_iff_ne.mpr c8
          have c8b1 : (a0.toList != ([] : List UInt8)) = true := bne_iff_ne.mpr c8
          have c8bE : (a0.toList).isEmpty = false := List.isEmpty_eq_false_iff.mpr c8
          by_cases c9 : 0 < (a0.size : Int)
          · rw [if_pos c9] at H
            have c9b0 : decide (0 < (a0.size : Int)) = true := decide_eq_true c9
            have c9b1 : decide (0 < a0.size) = true := decide_eq_true (by omega)
            clear c9
            by_cases c11 : (bt a0 0) = 45
            · rw [if_pos c11] at H
              have c11b0 : ((bt a0 0) == 45) = true := beq_iff_eq.mpr c11
              have c11b1 : ((bt a0 0) != 45) = false := bne_eq_false_iff_eq.mpr c11
              clear c11
              obtain rfl := Option.some.inj H
              have p10 : 0 ≤ (0 : Int) := (by omega)
              have q10 : 0 < a0.size := (by have : (0 : Int) < (a0.size : Int) := of_decide_eq_true asm; omega)
              have hx10 : ∀ h : 0 < a0.size, ((a0[0]'h).toNat : Int) = bt a0 0 := bt_at a0 0
              clear p10
              have qi10 : (0 < (a0.size : Int)) = True := eq_true (of_decide_eq_true asm)
              replace q10 := eq_true q10
              go_wp2
              go_ret
              exact ⟨eqv, dr⟩
            · rw [if_neg c11] at H
              have c11b0 : ((bt a0 0) == 45) = false := beq_eq_false_iff_ne.mpr c11
              have c11b1 : ((bt a0 0) != 45) = true := bne_iff_ne.mpr c11
              obtain ⟨ji12, hji12⟩ : ∃ j_ : Int, (wrap64 ((a0.size : Int) - 1)) = j_ := ⟨_, rfl⟩
              replace H : (if 0 ≤ (ji12) then (if (ji12) < (a0.size : Int) then (some ((bt a0 (ji12)) != 45)) else (none)) else (none)) = some r := by first | (rw [hji12] at H; exact H) | (simp only [hji12] at H ⊢; exact H)
              have hji12w : (IntKind.i64.wrap ((a0.size : Int) - 1)) = ji12 := (i64_w _).trans hji12
              by_cases c13 : 0 ≤ (ji12)
              · rw [if_pos c13] at H
                have c13b0 : decide (0 ≤ (ji12)) = true := decide_eq_true c13
                clear c13
                by_cases c14 : (ji12) < (a0.size : Int)
                · rw [if_pos c14] at H
                  have c14b0 : decide ((ji12) < (a0.size : Int)) = true := decide_eq_true c14
                  clear c14
                  obtain rfl := Option.some.inj H
                  have p10 : 0 ≤ (0 : Int) := (by omega)
                  have q10 : 0 < a0.size := (by have : (0 : Int) < (a0.size : Int) := of_decide_eq_true asm; omega)
                  have hx10 : ∀ h : 0 < a0.size, ((a0[0]'h).toNat : Int) = bt a0 0 := bt_at a0 0
                  clear p10
                  have qi10 : (0 < (a0.size : Int)) = True := eq_true (of_decide_eq_true asm)
                  replace q10 := eq_true q10
                  have p15 : 0 ≤ ((ji12) : Int) := of_decide_eq_true asm
                  have q15 : (ji12) < (a0.size : Int) := of_decide_eq_true asm
                  have hx15 := bt_at a0 (ji12)
                  replace p15 := eq_true p15
                  replace q15 := eq_true q15
                  go_wp2
                  go_ret
                  exact ⟨by first | rfl | (simp; done) | (simp only [← hji12] <;> (first | rfl | simp)) | (simp [*]; done), dr⟩
                · rw [if_neg c14] at H
                  exact absurd H (by simp)
              · rw [if_neg c13] at H
                exact absurd H (by simp)
          · rw [if_neg c9] at H
            exact absurd H (by simp)
end Go.Proofs.YtjohcncekfcgpaaGreatDoor.P
end
section
namespace Go.Proofs.YtjohcncekfcgpaaGreatDoor.P
open Go.RowKit Go.Proofs.YtjohcncekfcgpaaGreatDoorW.PrintWords Go.Proofs.YtjohcncekfcgpaaGreatDoorW.PrintLast Go.Proofs.YtjohcncekfcgpaaGreatDoorW.PrintMore
attribute [local go_sem] max2_int min2_int max_two min_two max_three min_three max_four min_four
set_option linter.unusedVariables false
set_option linter.unusedSimpArgs false
def bulletinbook_SameTexts.l0 : Nat → List ByteArray → List ByteArray → Bool → Int → Option (Bool)
  | 0, _, _, _, _ => none
  | k + 1, x0, x1, x5, x6 => if x5 = true then (if x6 < (x0.length : Int) then (if x6 < (x1.length : Int) then (if 0 ≤ x6 then (bulletinbook_SameTexts.l0 k x0 x1 ((rdOf ByteArray.empty x0 x6).toList == (rdOf ByteArray.empty x1 x6).toList) (wrap64 (x6 + 1))) else (none)) else (some x5)) else (some x5)) else (some x5)
def bulletinbook_SameTexts.f (k : Nat) (l0 : List ByteArray) (l1 : List ByteArray) : Option (Bool) := bulletinbook_SameTexts.l0 k l0 l1 ((l0.length : Int) == (l1.length : Int)) 0
theorem bulletinbook_SameTexts.mono_l : ∀ k, (∀ y0 y1 y2 y3, LeO (bulletinbook_SameTexts.l0 k y0 y1 y2 y3) (bulletinbook_SameTexts.l0 (k + 1) y0 y1 y2 y3))
  | 0 => fun _ _ _ _ r h => by simp [bulletinbook_SameTexts.l0] at h
  | k + 1 => by
    have ih0 := bulletinbook_SameTexts.mono_l k
    · intro y0 y1 y2 y3
      unfold bulletinbook_SameTexts.l0
      repeat' first
      | (with_reducible exact ih0 _ _ _ _)
      | (with_reducible exact LeO.refl _)
      | (with_reducible exact LeO.none _)
      | (with_reducible refine LeO.ite ?_ ?_)
      | (with_reducible refine LeO.bind ?_ (fun _ => ?_))
      | exact ih0 _ _ _ _
      | exact LeO.none _
      | refine LeO.ite ?_ ?_
      | refine LeO.bind ?_ (fun _ => ?_)
theorem bulletinbook_SameTexts.mono : ∀ a0 a1 k, LeO (bulletinbook_SameTexts.f k a0 a1) (bulletinbook_SameTexts.f (k + 1) a0 a1) := by
  intro a0 a1 k
  have ih0 := bulletinbook_SameTexts.mono_l k
  unfold bulletinbook_SameTexts.f
  repeat' first
      | (with_reducible exact ih0 _ _ _ _)
      | (with_reducible exact LeO.refl _)
      | (with_reducible exact LeO.none _)
      | (with_reducible refine LeO.ite ?_ ?_)
      | (with_reducible refine LeO.bind ?_ (fun _ => ?_))
      | exact ih0 _ _ _ _
      | exact LeO.none _
      | refine LeO.ite ?_ ?_
      | refine LeO.bind ?_ (fun _ => ?_)
set_option maxHeartbeats 8000000 in
set_option maxRecDepth 100000 in
theorem bulletinbook_SameTexts.calls (k : Nat) (A0 : Option Addr) (c0 : Nat) (l0 : List ByteArray) (A1 : Option Addr) (c1 : Nat) (l1 : List ByteArray) (r : Bool) (w : World) (hr0 : Kd.C Kd.string w A0 l0.length l0) (hc0 : l0.length ≤ c0) (hr1 : Kd.C Kd.string w A1 l1.length l1) (hc1 : l1.length ≤ c1) (h : bulletinbook_SameTexts.f k l0 l1 = some r) :
    Calls Tryz.prog 21 #[.slice A0 l0.length c0, .slice A1 l1.length c1] w fun e w' => e = .returned (.bool r) ∧ Drawn0 w w' := by
  have HR0 := Aside0.mk hr0
  have HC0 := Aside0.mk hc0
  clear hr0 hc0
  have HR1 := Aside0.mk hr1
  have HC1 := Aside0.mk hc1
  clear hr1 hc1
  have H : (bulletinbook_SameTexts.l0 k l0 l1 ((l0.length : Int) == (l1.length : Int)) 0) = some r := h
  clear h
  have H' := Aside0.mk H
  clear H
  go_enter Tryz.func21, Tryz.ntmps21
  go_wp2
  repeat (go_quiet (fail); try go_wp2)
  go_loopg [5, 6] k (fun kq v5 v6 w' => ∃ (x5_1 : Bool) (x6_1 : Int), v5 = .bool x5_1 ∧ v6 = .int .i64 x6_1 ∧ Aside0 (bulletinbook_SameTexts.l0 kq l0 l1 x5_1 x6_1 = some r) ∧ Aside0 (kq ≤ k) ∧ Drawn0 w w')
  case atStart => exact ⟨(((l0.length : Int) == (l1.length : Int))), (0), eqv, eqv, H', ⟨Nat.le_refl _⟩, dr⟩
  case round =>
    clear H'
    try clear c1
    try clear c2
    try clear p2
    obtain ⟨x5_1, x6_1, rfl, rfl, HA, HK1, ⟨m1, rfl⟩⟩ := hrel
    cases gk with
    | zero => exact absurd HA.out (by simp [bulletinbook_SameTexts.l0])
    | succ k1 =>
      have H := HA.out
      clear HA
      simp only [bulletinbook_SameTexts.l0] at H
      by_cases c3 : x5_1 = true
      · subst c3
        have H1 : (if x6_1 < (l0.length : Int) then (if x6_1 < (l1.length : Int) then (if 0 ≤ x6_1 then (bulletinbook_SameTexts.l0 k1 l0 l1 ((rdOf ByteArray.empty l0 x6_1).toList == (rdOf ByteArray.empty l1 x6_1).toList) (wrap64 (x6_1 + 1))) else (none)) else (some true)) else (some true)) = some r := by rw [if_pos rfl] at H; exact H
        clear H
        have H := H1
        clear H1
        by_cases c4 : x6_1 < (l0.length : Int)
        · rw [if_pos c4] at H
          have c4b0 : decide (x6_1 < (l0.length : Int)) = true := decide_eq_true c4
          clear c4
          by_cases c5 : x6_1 < (l1.length : Int)
          · rw [if_pos c5] at H
            have c5b0 : decide (x6_1 < (l1.length : Int)) = true := decide_eq_true c5
            clear c5
            by_cases c6 : 0 ≤ x6_1
            · rw [if_pos c6] at H
              have c6b0 : decide (0 ≤ x6_1) = true := decide_eq_true c6
              clear c6
              have H' := Aside0.mk H
              clear H
              have p244 : 0 ≤ (x6_1 : Int) := of_decide_eq_true asm
              have q244 : x6_1 < (l0.length : Int) := of_decide_eq_true asm
              obtain ⟨ad244, e244, hx244_0⟩ := Kd.at_string HR0.out x6_1 p244 q244
              cases e244
              replace p244 := eq_true p244
              replace q244 := eq_true q244
              have p245 : 0 ≤ (x6_1 : Int) := of_decide_eq_true asm
              have q245 : x6_1 < (l1.length : Int) := of_decide_eq_true asm
              obtain ⟨ad245, e245, hx245_0⟩ := Kd.at_string HR1.out x6_1 p245 q245
              cases e245
              replace p245 := eq_true p245
              replace q245 := eq_true q245
              go_wp2
              repeat (go_quiet (fail); try go_wp2)
              go_roundg k1
              case measure => have := HK1.out; omega
              case rel => exact ⟨(((rdOf ByteArray.empty l0 x6_1).toList == (rdOf ByteArray.empty l1 x6_1).toList)), (wrap64 (x6_1 + 1)), eqv, eqv, H', ⟨by have := HK1.out; omega⟩, dr⟩
            · rw [if_neg c6] at H
              exact absurd H (by simp)
          · rw [if_neg c5] at H
            have c5b0 : decide (x6_1 < (l1.length : Int)) = false := decide_eq_false c5
            clear c5
            obtain rfl := Option.some.inj H
            go_wp2
            repeat (go_quiet (fail); try go_wp2)
            go_ret
            exact ⟨eqv, dr⟩
        · rw [if_neg c4] at H
          have c4b0 : decide (x6_1 < (l0.length : Int)) = false := decide_eq_false c4
          clear c4
          obtain rfl := Option.some.inj H
          go_wp2
          repeat (go_quiet (fail); try go_wp2)
          go_ret
          exact ⟨eqv, dr⟩
      · replace c3 := Bool.eq_false_iff.mpr c3
        subst c3
        have H1 : (some false) = some r := by rw [if_neg (show ¬ (false = true) by decide)] at H; exact H
        clear H
        have H := H1
        clear H1
        obtain rfl := Option.some.inj H
        go_wp2
        repeat (go_quiet (fail); try go_wp2)
        go_ret
        exact ⟨eqv, dr⟩
end Go.Proofs.YtjohcncekfcgpaaGreatDoor.P
end
section
namespace Go.Proofs.YtjohcncekfcgpaaGreatDoor.P
open Go.RowKit Go.Proofs.YtjohcncekfcgpaaGreatDoorW.PrintWords Go.Proofs.YtjohcncekfcgpaaGreatDoorW.PrintLast Go.Proofs.YtjohcncekfcgpaaGreatDoorW.PrintMore
attribute [local go_sem] max2_int min2_int max_two min_two max_three min_three max_four min_four
set_option linter.unusedVariables false
set_option linter.unusedSimpArgs false
def bulletinref16_Lines.l0 : Nat → List ByteArray → ByteArray → ByteArray → Int → Option (List ByteArray)
  | 0, _, _, _, _ => none
  | k + 1, x3, x4, x5, x6 => if x6 < (x5.size : Int) then (if 0 ≤ x6 then (if (bt x5 x6) = 13 then (if (wrap64 (x6 + 1)) < (x5.size : Int) then (if 0 ≤ (wrap64 (x6 + 1)) then (if (bt x5 (wrap64 (x6 + 1))) = 10 then (if x3.length < 8796093022208 then (bulletinref16_Lines.l0 k (x3 ++ [x4]) (⟨#[]⟩ : ByteArray) x5 (wrap64 ((wrap64 (x6 + 1)) + 1))) else (none)) else (if x6 ≤ (wrap64 (x6 + 1)) then (if (wrap64 (x6 + 1)) ≤ (x5.size : Int) then (if x4.size + (x5.extract (x6 : Int).toNat ((wrap64 (x6 + 1)) : Int).toNat).size ≤ 9223372036854775807 then (bulletinref16_Lines.l0 k x3 (x4 ++ (x5.extract (x6 : Int).toNat ((wrap64 (x6 + 1)) : Int).toNat)) x5 (wrap64 (x6 + 1))) else (none)) else (none)) else (none))) else (none)) else (if x6 ≤ (wrap64 (x6 + 1)) then (if (wrap64 (x6 + 1)) ≤ (x5.size : Int) then (if x4.size + (x5.extract (x6 : Int).toNat ((wrap64 (x6 + 1)) : Int).toNat).size ≤ 9223372036854775807 then (bulletinref16_Lines.l0 k x3 (x4 ++ (x5.extract (x6 : Int).toNat ((wrap64 (x6 + 1)) : Int).toNat)) x5 (wrap64 (x6 + 1))) else (none)) else (none)) else (none))) else (if x6 ≤ (wrap64 (x6 + 1)) then (if (wrap64 (x6 + 1)) ≤ (x5.size : Int) then (if x4.size + (x5.extract (x6 : Int).toNat ((wrap64 (x6 + 1)) : Int).toNat).size ≤ 9223372036854775807 then (bulletinref16_Lines.l0 k x3 (x4 ++ (x5.extract (x6 : Int).toNat ((wrap64 (x6 + 1)) : Int).toNat)) x5 (wrap64 (x6 + 1))) else (none)) else (none)) else (none))) else (none)) else (if x4.toList = ([] : List UInt8) then (some x3) else (if x3.length < 8796093022208 then (some (x3 ++ [x4])) else (none)))
def bulletinref16_Lines.f (k : Nat) (l0_0 : List (S70)) (a0_1 : ByteArray) : Option (List ByteArray) := bulletinref16_Lines.l0 k ([] : List ByteArray) (⟨#[]⟩ : ByteArray) a0_1 0
theorem bulletinref16_Lines.mono_l : ∀ k, (∀ y0 y1 y2 y3, LeO (bulletinref16_Lines.l0 k y0 y1 y2 y3) (bulletinref16_Lines.l0 (k + 1) y0 y1 y2 y3))
  | 0 => fun _ _ _ _ r h => by simp [bulletinref16_Lines.l0] at h
  | k + 1 => by
    have ih0 := bulletinref16_Lines.mono_l k
    · intro y0 y1 y2 y3
      unfold bulletinref16_Lines.l0
      repeat' first
      | (with_reducible exact ih0 _ _ _ _)
      | (with_reducible exact LeO.refl _)
      | (with_reducible exact LeO.none _)
      | (with_reducible refine LeO.ite ?_ ?_)
      | (with_reducible refine LeO.bind ?_ (fun _ => ?_))
      | exact ih0 _ _ _ _
      | exact LeO.none _
      | refine LeO.ite ?_ ?_
      | refine LeO.bind ?_ (fun _ => ?_)
theorem bulletinref16_Lines.mono : ∀ a0 a1 k, LeO (bulletinref16_Lines.f k a0 a1) (bulletinref16_Lines.f (k + 1) a0 a1) := by
  intro a0 a1 k
  have ih0 := bulletinref16_Lines.mono_l k
  unfold bulletinref16_Lines.f
  repeat' first
      | (with_reducible exact ih0 _ _ _ _)
      | (with_reducible exact LeO.refl _)
      | (with_reducible exact LeO.none _)
      | (with_reducible refine LeO.ite ?_ ?_)
      | (with_reducible refine LeO.bind ?_ (fun _ => ?_))
      | exact ih0 _ _ _ _
      | exact LeO.none _
      | refine LeO.ite ?_ ?_
      | refine LeO.bind ?_ (fun _ => ?_)
set_option maxHeartbeats 8000000 in
set_option maxRecDepth 100000 in
theorem bulletinref16_Lines.calls (k : Nat) (A0_0 : Option Addr) (c0_0 : Nat) (l0_0 : List (S70)) (a0_1 : ByteArray) (r : List ByteArray) (w : World) (hr0_0 : Kd.C k70 w A0_0 l0_0.length l0_0) (hc0_0 : l0_0.length ≤ c0_0) (h : bulletinref16_Lines.f k l0_0 a0_1 = some r) :
    Calls Tryz.prog 23 #[.agg #[.slice A0_0 l0_0.length c0_0, .string a0_1]] w fun e w' => ∃ v0_ : Value, e = .returned (v0_) ∧ Kd.R Kd.string 9 w' w.heap.size (fun _ => True) v0_ r ∧ Below w.heap.size w w' := by
  have hu31 := Tryz.underlying31
  have HR0_0 := Aside0.mk hr0_0
  have HC0_0 := Aside0.mk hc0_0
  clear hr0_0 hc0_0
  have HB := Aside0.mk (Below.refl w.heap.size w)
  have H : (bulletinref16_Lines.l0 k ([] : List ByteArray) (⟨#[]⟩ : ByteArray) a0_1 0) = some r := h
  clear h
  have H' := Aside0.mk H
  clear H
  go_enter Tryz.func23, Tryz.ntmps23
  go_wp2_with (first | ((with_reducible refine gate_dst (N := 1) rfl ?_); (try (refine gate_guard (by rfl) ?_; dsimp only)); refine boxE 1 #[.slice A0_0 l0_0.length c0_0, .string a0_1] 31 ?_; intro gb246 hg w2 hbox hb; have n0_ := Aside0.mk (below_step bw hb); have n1_ := Aside0.mk (hbox); have n2_ := Aside0.mk ((bz hg : w.heap.size ≤ gb246)); have n3_ := Aside0.mk ((bz hg : w.heap.size ≤ gb246)); clear HB; have HB := n0_; have BK246 := n1_; have GW246 := n2_; have GE246 := n3_; clear n0_ n1_ n2_ n3_; clear hb hbox hg; have hcz3_0 : w2.cell? ⟨gb246, 0, none⟩ = some (.slice A0_0 l0_0.length c0_0) := (blk_cell BK246.out 0).trans rfl; have hcz3_1 : w2.cell? ⟨gb246, 1, none⟩ = some (.string a0_1) := (blk_cell BK246.out 1).trans rfl; have hfz3_0 := blk_frozen BK246.out 0; have hfz3_1 := blk_frozen BK246.out 1))
  go_loopg [3, 4, 6] k (fun kq v3 v4 v6 w' => ∃ (x3_1 : List ByteArray) (x4_1 : ByteArray) (x6_1 : Int), v4 = .string x4_1 ∧ v6 = .int .i64 x6_1 ∧ Aside0 (bulletinref16_Lines.l0 kq x3_1 x4_1 a0_1 x6_1 = some r) ∧ Aside0 (kq ≤ k) ∧ Aside0 (Kd.R Kd.string 9 w' w.heap.size (fun _ => True) v3 x3_1) ∧ Aside0 (w'.heap[gb246]? = some (.cells #[(.slice A0_0 l0_0.length c0_0), .string a0_1] 31 (0, 0))) ∧ Aside0 (Below w.heap.size w w'))
  case atStart => exact ⟨(([] : List ByteArray)), ((⟨#[]⟩ : ByteArray)), (0), eqv, eqv, H', ⟨Nat.le_refl _⟩, ⟨by first | exact Kd.R_nil _ _ _ _ _ | exact Kd.N_nil _ _ _ _ _ | exact Kd.V_nil _ _ _ _ _ | exact Kd.Q_nil _ _ _ _ _ | exact Kd.S_nil _ _ _ _ _⟩, ⟨bk⟩, ⟨bw⟩⟩
  case round =>
    clear H'
    try clear c2
    try clear p2
    try clear hcz3_0
    try clear hcz3_1
    try clear hfz3_0
    try clear hfz3_1
    obtain ⟨x3_1, x4_1, x6_1, rfl, rfl, HA, HK1, HO_3, BK246, HB⟩ := hrel
    cases gk with
    | zero => exact absurd HA.out (by simp [bulletinref16_Lines.l0])
    | succ k1 =>
      have H := HA.out
      clear HA
      simp only [bulletinref16_Lines.l0] at H
      by_cases c4 : x6_1 < (a0_1.size : Int)
      · rw [if_pos c4] at H
        have c4b0 : decide (x6_1 < (a0_1.size : Int)) = true := decide_eq_true c4
        clear c4
        by_cases c5 : 0 ≤ x6_1
        · rw [if_pos c5] at H
          have c5b0 : decide (0 ≤ x6_1) = true := decide_eq_true c5
          clear c5
          by_cases c7 : (bt a0_1 x6_1) = 13
          · rw [if_pos c7] at H
            have c7b0 : ((bt a0_1 x6_1) == 13) = true := beq_iff_eq.mpr c7
            have c7b1 : ((bt a0_1 x6_1) != 13) = false := bne_eq_false_iff_eq.mpr c7
            clear c7
            by_cases c8 : (wrap64 (x6_1 + 1)) < (a0_1.size : Int)
            · rw [if_pos c8] at H
              have c8b0 : decide ((wrap64 (x6_1 + 1)) < (a0_1.size : Int)) = true := decide_eq_true c8
              clear c8
              obtain ⟨ji9, hji9⟩ : ∃ j_ : Int, (wrap64 (x6_1 + 1)) = j_ := ⟨_, rfl⟩
              replace H : (if 0 ≤ (ji9) then (if (bt a0_1 (ji9)) = 10 then (if x3_1.length < 8796093022208 then (bulletinref16_Lines.l0 k1 (x3_1 ++ [x4_1]) (⟨#[]⟩ : ByteArray) a0_1 (wrap64 ((ji9) + 1))) else (none)) else (if x6_1 ≤ (ji9) then (if (ji9) ≤ (a0_1.size : Int) then (if x4_1.size + (a0_1.extract (x6_1 : Int).toNat ((ji9) : Int).toNat).size ≤ 9223372036854775807 then (bulletinref16_Lines.l0 k1 x3_1 (x4_1 ++ (a0_1.extract (x6_1 : Int).toNat ((ji9) : Int).toNat)) a0_1 ji9) else (none)) else (none)) else (none))) else (none)) = some r := by first | (rw [hji9] at H; exact H) | (simp only [hji9] at H ⊢; exact H)
              (try rw [hji9] at c8b0)
              have hji9w : (IntKind.i64.wrap (x6_1 + 1)) = ji9 := (i64_w _).trans hji9
              by_cases c10 : 0 ≤ (ji9)
              · rw [if_pos c10] at H
                have c10b0 : decide (0 ≤ (ji9)) = true := decide_eq_true c10
                clear c10
                by_cases c12 : (bt a0_1 (ji9)) = 10
                · rw [if_pos c12] at H
                  have c12b0 : ((bt a0_1 (ji9)) == 10) = true := beq_iff_eq.mpr c12
                  have c12b1 : ((bt a0_1 (ji9)) != 10) = false := bne_eq_false_iff_eq.mpr c12
                  clear c12
                  by_cases c13 : x3_1.length < 8796093022208
                  · rw [if_pos c13] at H
                    have LMc13 := Aside0.mk c13
                    clear c13
                    obtain ⟨y247, hy247⟩ : ∃ y_ : List ByteArray, y_ = (x3_1 ++ [x4_1]) := ⟨_, rfl⟩
                    replace H : (bulletinref16_Lines.l0 k1 y247 (⟨#[]⟩ : ByteArray) a0_1 (wrap64 ((ji9) + 1))) = some r := by first | (rw [hy247]; with_reducible exact H) | (have H2_ := (Option.bind_some _ _).symm.trans H; rw [hy247]; with_reducible exact H2_) | (have H2_ := (Option.bind_some _ _).symm.trans H; with_reducible exact H2_) | with_reducible exact H | (rw [hy247]; exact H) | exact H
                    have Ny247 := Aside0.mk hy247
                    clear hy247
                    have H' := Aside0.mk H
                    clear H
                    have p6 : 0 ≤ (x6_1 : Int) := of_decide_eq_true asm
                    have q6 : x6_1 < (a0_1.size : Int) := of_decide_eq_true asm
                    have hx6 := bt_at a0_1 x6_1
                    replace p6 := eq_true p6
                    replace q6 := eq_true q6
                    have p11 : 0 ≤ ((ji9) : Int) := of_decide_eq_true asm
                    have q11 : (ji9) < (a0_1.size : Int) := of_decide_eq_true asm
                    have hx11 := bt_at a0_1 (ji9)
                    replace p11 := eq_true p11
                    replace q11 := eq_true q11
                    go_wp2_with (first | ((with_reducible refine gate_builtin (b := .append) (xs := #[.tmp 33, .tmp 35]) rfl ?_); (try (refine gate_guard (by rfl) ?_; dsimp only)); at_builtin; refine Kd.R_append Kd.string (w0 := w) w.heap.size rfl (.tmp 33) (.tmp 35) 39 9 (.string ⟨#[]⟩) 16 rfl Tryz.underlying39 info9 rfl (by decide) (by omega) u3 x3_1 x4_1 [.string x4_1] (fun _ => True) (fun _ => False) rfl rfl ?aP (fun _ hk => hk.elim) ?aF ?aO ?aB ?aS ?aL ?_; (case aP => exact rfl); (case aB => exact bw); (case aF => exact (fun _ _ => trivial)); (case aO => exact (kr HO_3)); (case aS => exact (below_size bw)); (case aL => have := LMc13.out; omega); intro v248 w14 ho hb hg hat; rw [← Ny247.out] at ho; have n0_ := Aside0.mk (blk_grown (g := gb246) (o := .cells #[.slice A0_0 l0_0.length c0_0, .string a0_1] 31 (0, 0)) bk hg (Kd.R_ne HO_3.out BK246.out (by decide))); have n1_ := Aside0.mk (hb); have n2_ := Aside0.mk (ho); clear BK246; clear HB; clear HO_3; have BK246 := n0_; have HB := n1_; have HO249 := n2_; clear n0_ n1_ n2_; clear ho hb hg hat))
                    go_roundg k1
                    case measure => have := HK1.out; omega
                    case rel => exact ⟨(y247), ((⟨#[]⟩ : ByteArray)), (wrap64 ((ji9) + 1)), eqv, (by first | rfl | (simp; done) | (simp only [← hji9] <;> (first | rfl | simp)) | (simp [*]; done)), H', ⟨by have := HK1.out; omega⟩, ⟨kr HO249⟩, ⟨bk⟩, ⟨bw⟩⟩
                  · rw [if_neg c13] at H
                    exact absurd H (by simp)
                · rw [if_neg c12] at H
                  have c12b0 : ((bt a0_1 (ji9)) == 10) = false := beq_eq_false_iff_ne.mpr c12
                  have c12b1 : ((bt a0_1 (ji9)) != 10) = true := bne_iff_ne.mpr c12
                  have c15b0 := eq_true (of_decide_eq_true asm : 0 ≤ x6_1)
                  by_cases c16 : x6_1 ≤ (ji9)
                  · rw [if_pos c16] at H
                    have c16b0 := eq_true c16
                    have c16b1 : decide (x6_1 ≤ (ji9)) = true := decide_eq_true c16
                    clear c16
                    by_cases c17 : (ji9) ≤ (a0_1.size : Int)
                    · rw [if_pos c17] at H
                      have c17b0 := eq_true c17
                      have c17b1 : decide ((ji9) ≤ (a0_1.size : Int)) = true := decide_eq_true c17
                      clear c17
                      by_cases c18 : x4_1.size + (a0_1.extract (x6_1 : Int).toNat ((ji9) : Int).toNat).size ≤ 9223372036854775807
                      · rw [if_pos c18] at H
                        have c18b0 := eq_true c18
                        have c18b1 : decide (x4_1.size + (a0_1.extract (x6_1 : Int).toNat ((ji9) : Int).toNat).size ≤ 9223372036854775807) = true := decide_eq_true c18
                        try have c18b2 : (9223372036854775807 < x4_1.size + (a0_1.extract (x6_1 : Int).toNat ((ji9) : Int).toNat).size) = False := eq_false (Nat.not_lt.2 c18)
                        (try (have c18v0 : (9223372036854775807 < x4_1.size + (min ((ji9) : Int).toNat a0_1.size - (x6_1 : Int).toNat)) = False := eq_false (Nat.not_lt.2 (by have h_ := c18; (try simp only [ByteArray.size_append, ByteArray.size_extract] at h_); exact h_))))
                        (try (have c18v1 : (9223372036854775807 < x4_1.size + (((ji9) : Int).toNat - (x6_1 : Int).toNat)) = False := eq_false (Nat.not_lt.2 (by have h_ := c18; (try simp only [ByteArray.size_append, ByteArray.size_extract] at h_); exact (by rw [Nat.min_eq_left (show ((ji9) : Int).toNat ≤ a0_1.size by have hq_ : ((ji9)) ≤ (a0_1.size : Int) := of_eq_true (by assumption); omega)] at h_; exact h_)))))
                        have H' := Aside0.mk H
                        clear H
                        have p6 : 0 ≤ (x6_1 : Int) := of_decide_eq_true asm
                        have q6 : x6_1 < (a0_1.size : Int) := of_decide_eq_true asm
                        have hx6 := bt_at a0_1 x6_1
                        replace p6 := eq_true p6
                        replace q6 := eq_true q6
                        have p11 : 0 ≤ ((ji9) : Int) := of_decide_eq_true asm
                        have q11 : (ji9) < (a0_1.size : Int) := of_decide_eq_true asm
                        have hx11 := bt_at a0_1 (ji9)
                        replace p11 := eq_true p11
                        replace q11 := eq_true q11
                        go_wp2
                        go_roundg k1
                        case measure => have := HK1.out; omega
                        case rel => exact ⟨(x3_1), (x4_1 ++ (a0_1.extract (x6_1 : Int).toNat ((ji9) : Int).toNat)), (ji9), (by first | rfl | (simp; done) | (simp only [← hji9] <;> (first | rfl | simp)) | (simp [*]; done)), (by first | rfl | (simp; done) | (simp only [← hji9] <;> (first | rfl | simp)) | (simp [*]; done)), H', ⟨by have := HK1.out; omega⟩, ⟨kr HO_3⟩, ⟨bk⟩, ⟨bw⟩⟩
                      · rw [if_neg c18] at H
                        exact absurd H (by simp)
                    · rw [if_neg c17] at H
                      exact absurd H (by simp)
                  · rw [if_neg c16] at H
                    exact absurd H (by simp)
              · rw [if_neg c10] at H
                exact absurd H (by simp)
            · rw [if_neg c8] at H
              have c8b0 : decide ((wrap64 (x6_1 + 1)) < (a0_1.size : Int)) = false := decide_eq_false c8
              clear c8
              have c19b0 := eq_true (of_decide_eq_true asm : 0 ≤ x6_1)
              by_cases c20 : x6_1 ≤ (wrap64 (x6_1 + 1))
              · rw [if_pos c20] at H
                have c20b0 := eq_true c20
                have c20b1 : decide (x6_1 ≤ (wrap64 (x6_1 + 1))) = true := decide_eq_true c20
                by_cases c21 : (wrap64 (x6_1 + 1)) ≤ (a0_1.size : Int)
                · rw [if_pos c21] at H
                  have c21b0 := eq_true c21
                  have c21b1 : decide ((wrap64 (x6_1 + 1)) ≤ (a0_1.size : Int)) = true := decide_eq_true c21
                  by_cases c22 : x4_1.size + (a0_1.extract (x6_1 : Int).toNat ((wrap64 (x6_1 + 1)) : Int).toNat).size ≤ 9223372036854775807
                  · rw [if_pos c22] at H
                    have c22b0 := eq_true c22
                    have c22b1 : decide (x4_1.size + (a0_1.extract (x6_1 : Int).toNat ((wrap64 (x6_1 + 1)) : Int).toNat).size ≤ 9223372036854775807) = true := decide_eq_true c22
                    try have c22b2 : (9223372036854775807 < x4_1.size + (a0_1.extract (x6_1 : Int).toNat ((wrap64 (x6_1 + 1)) : Int).toNat).size) = False := eq_false (Nat.not_lt.2 c22)
                    (try (have c22v0 : (9223372036854775807 < x4_1.size + (min ((wrap64 (x6_1 + 1)) : Int).toNat a0_1.size - (x6_1 : Int).toNat)) = False := eq_false (Nat.not_lt.2 (by have h_ := c22; (try simp only [ByteArray.size_append, ByteArray.size_extract] at h_); exact h_))))
                    (try (have c22v1 : (9223372036854775807 < x4_1.size + (((wrap64 (x6_1 + 1)) : Int).toNat - (x6_1 : Int).toNat)) = False := eq_false (Nat.not_lt.2 (by have h_ := c22; (try simp only [ByteArray.size_append, ByteArray.size_extract] at h_); exact (by rw [Nat.min_eq_left (show ((wrap64 (x6_1 + 1)) : Int).toNat ≤ a0_1.size by have hq_ : ((wrap64 (x6_1 + 1))) ≤ (a0_1.size : Int) := of_eq_true (by assumption); omega)] at h_; exact h_)))))
                    have H' := Aside0.mk H
                    clear H
                    have p6 : 0 ≤ (x6_1 : Int) := of_decide_eq_true asm
                    have q6 : x6_1 < (a0_1.size : Int) := of_decide_eq_true asm
                    have hx6 := bt_at a0_1 x6_1
                    replace p6 := eq_true p6
                    replace q6 := eq_true q6
                    go_wp2
                    go_roundg k1
                    case measure => have := HK1.out; omega
                    case rel => exact ⟨(x3_1), (x4_1 ++ (a0_1.extract (x6_1 : Int).toNat ((wrap64 (x6_1 + 1)) : Int).toNat)), (wrap64 (x6_1 + 1)), eqv, eqv, H', ⟨by have := HK1.out; omega⟩, ⟨kr HO_3⟩, ⟨bk⟩, ⟨bw⟩⟩
                  · rw [if_neg c22] at H
                    exact absurd H (by simp)
                · rw [if_neg c21] at H
                  exact absurd H (by simp)
              · rw [if_neg c20] at H
                exact absurd H (by simp)
          · rw [if_neg c7] at H
            have c7b0 : ((bt a0_1 x6_1) == 13) = false := beq_eq_false_iff_ne.mpr c7
            have c7b1 : ((bt a0_1 x6_1) != 13) = true := bne_iff_ne.mpr c7
            have c23b0 := eq_true (of_decide_eq_true asm : 0 ≤ x6_1)
            by_cases c24 : x6_1 ≤ (wrap64 (x6_1 + 1))
            · rw [if_pos c24] at H
              have c24b0 := eq_true c24
              have c24b1 : decide (x6_1 ≤ (wrap64 (x6_1 + 1))) = true := decide_eq_true c24
              by_cases c25 : (wrap64 (x6_1 + 1)) ≤ (a0_1.size : Int)
              · rw [if_pos c25] at H
                have c25b0 := eq_true c25
                have c25b1 : decide ((wrap64 (x6_1 + 1)) ≤ (a0_1.size : Int)) = true := decide_eq_true c25
                by_cases c26 : x4_1.size + (a0_1.extract (x6_1 : Int).toNat ((wrap64 (x6_1 + 1)) : Int).toNat).size ≤ 9223372036854775807
                · rw [if_pos c26] at H
                  have c26b0 := eq_true c26
                  have c26b1 : decide (x4_1.size + (a0_1.extract (x6_1 : Int).toNat ((wrap64 (x6_1 + 1)) : Int).toNat).size ≤ 9223372036854775807) = true := decide_eq_true c26
                  try have c26b2 : (9223372036854775807 < x4_1.size + (a0_1.extract (x6_1 : Int).toNat ((wrap64 (x6_1 + 1)) : Int).toNat).size) = False := eq_false (Nat.not_lt.2 c26)
                  (try (have c26v0 : (9223372036854775807 < x4_1.size + (min ((wrap64 (x6_1 + 1)) : Int).toNat a0_1.size - (x6_1 : Int).toNat)) = False := eq_false (Nat.not_lt.2 (by have h_ := c26; (try simp only [ByteArray.size_append, ByteArray.size_extract] at h_); exact h_))))
                  (try (have c26v1 : (9223372036854775807 < x4_1.size + (((wrap64 (x6_1 + 1)) : Int).toNat - (x6_1 : Int).toNat)) = False := eq_false (Nat.not_lt.2 (by have h_ := c26; (try simp only [ByteArray.size_append, ByteArray.size_extract] at h_); exact (by rw [Nat.min_eq_left (show ((wrap64 (x6_1 + 1)) : Int).toNat ≤ a0_1.size by have hq_ : ((wrap64 (x6_1 + 1))) ≤ (a0_1.size : Int) := of_eq_true (by assumption); omega)] at h_; exact h_)))))
                  have H' := Aside0.mk H
                  clear H
                  have p6 : 0 ≤ (x6_1 : Int) := of_decide_eq_true asm
                  have q6 : x6_1 < (a0_1.size : Int) := of_decide_eq_true asm
                  have hx6 := bt_at a0_1 x6_1
                  replace p6 := eq_true p6
                  replace q6 := eq_true q6
                  go_wp2
                  go_roundg k1
                  case measure => have := HK1.out; omega
                  case rel => exact ⟨(x3_1), (x4_1 ++ (a0_1.extract (x6_1 : Int).toNat ((wrap64 (x6_1 + 1)) : Int).toNat)), (wrap64 (x6_1 + 1)), eqv, eqv, H', ⟨by have := HK1.out; omega⟩, ⟨kr HO_3⟩, ⟨bk⟩, ⟨bw⟩⟩
                · rw [if_neg c26] at H
                  exact absurd H (by simp)
              · rw [if_neg c25] at H
                exact absurd H (by simp)
            · rw [if_neg c24] at H
              exact absurd H (by simp)
        · rw [if_neg c5] at H
          exact absurd H (by simp)
      · rw [if_neg c4] at H
        have c4b0 : decide (x6_1 < (a0_1.size : Int)) = false := decide_eq_false c4
        clear c4
        by_cases c27 : x4_1.toList = ([] : List UInt8)
        · rw [if_pos c27] at H
          have c27b0 : (x4_1.toList == ([] : List UInt8)) = true := beq_iff_eq.mpr c27
          have c27b1 : (x4_1.toList != ([] : List UInt8)) = false := bne_eq_false_iff_eq.mpr c27
          have c27bE : (x4_1.toList).isEmpty = true := List.isEmpty_iff.mpr c27
          clear c27
          obtain rfl := Option.some.inj H
          go_wp2
          go_ret
          exact ⟨_, eqe, kr HO_3, bw⟩
        · rw [if_neg c27] at H
          have c27b0 : (x4_1.toList == ([] : List UInt8)) = false := beq_eq_false_iff_ne.mpr c27
          have c27b1 : (x4_1.toList != ([] : List UInt8)) = true := bne_iff_ne.mpr c27
          have c27bE : (x4_1.toList).isEmpty = false := List.isEmpty_eq_false_iff.mpr c27
          by_cases c28 : x3_1.length < 8796093022208
          · rw [if_pos c28] at H
            have LMc28 := Aside0.mk c28
            clear c28
            obtain ⟨y250, hy250⟩ : ∃ y_ : List ByteArray, y_ = (x3_1 ++ [x4_1]) := ⟨_, rfl⟩
            replace H : (some y250) = some r := by first | (rw [hy250]; with_reducible exact H) | (have H2_ := (Option.bind_some _ _).symm.trans H; rw [hy250]; with_reducible exact H2_) | (have H2_ := (Option.bind_some _ _).symm.trans H; with_reducible exact H2_) | with_reducible exact H | (rw [hy250]; exact H) | exact H
            have Ny250 := Aside0.mk hy250
            clear hy250
            obtain rfl := Option.some.inj H
            go_wp2_with (first | ((with_reducible refine gate_builtin (b := .append) (xs := #[.tmp 48, .tmp 50]) rfl ?_); (try (refine gate_guard (by rfl) ?_; dsimp only)); at_builtin; refine Kd.R_append Kd.string (w0 := w) w.heap.size rfl (.tmp 48) (.tmp 50) 39 9 (.string ⟨#[]⟩) 16 rfl Tryz.underlying39 info9 rfl (by decide) (by omega) u3 x3_1 x4_1 [.string x4_1] (fun _ => True) (fun _ => False) rfl rfl ?aP (fun _ hk => hk.elim) ?aF ?aO ?aB ?aS ?aL ?_; (case aP => exact rfl); (case aB => exact bw); (case aF => exact (fun _ _ => trivial)); (case aO => exact (kr HO_3)); (case aS => exact (below_size bw)); (case aL => have := LMc28.out; omega); intro v251 w29 ho hb hg hat; rw [← Ny250.out] at ho; have n0_ := Aside0.mk (blk_grown (g := gb246) (o := .cells #[.slice A0_0 l0_0.length c0_0, .string a0_1] 31 (0, 0)) bk hg (Kd.R_ne HO_3.out BK246.out (by decide))); have n1_ := Aside0.mk (hb); have n2_ := Aside0.mk (ho); clear BK246; clear HB; clear HO_3; have BK246 := n0_; have HB := n1_; have HO252 := n2_; clear n0_ n1_ n2_; clear ho hb hg hat))
            go_ret
            exact ⟨_, eqe, kr HO252, bw⟩
          · rw [if_neg c28] at H
            exact absurd H (by simp)
end Go.Proofs.YtjohcncekfcgpaaGreatDoor.P
end
section
namespace Go.Proofs.YtjohcncekfcgpaaGreatDoor.P
open Go.RowKit Go.Proofs.YtjohcncekfcgpaaGreatDoorW.PrintWords Go.Proofs.YtjohcncekfcgpaaGreatDoorW.PrintLast Go.Proofs.YtjohcncekfcgpaaGreatDoorW.PrintMore
attribute [local go_sem] max2_int min2_int max_two min_two max_three min_three max_four min_four
set_option linter.unusedVariables false
set_option linter.unusedSimpArgs false
def glyph_control.f (a0 : Int) : Option (Bool) := if a0 < 32 then (some true) else (if a0 ≥ 127 then (some (decide (a0 ≤ 159))) else (some false))
set_option maxHeartbeats 8000000 in
set_option maxRecDepth 100000 in
theorem glyph_control.calls (a0 : Int) (r : Bool) (w : World) (h : glyph_control.f a0 = some r) :
    Calls Tryz.prog 159 #[.int .i32 a0] w fun e w' => e = .returned (.bool r) ∧ Drawn0 w w' := by
  have H : (if a0 < 32 then (some true) else (if a0 ≥ 127 then (some (decide (a0 ≤ 159))) else (some false))) = some r := h
  clear h
  by_cases c2 : a0 < 32
  · rw [if_pos c2] at H
    have c2b0 : decide (a0 < 32) = true := decide_eq_true c2
    clear c2
    obtain rfl := Option.some.inj H
    go_enter Tryz.func159, Tryz.ntmps159
    go_wp2
    go_ret
    exact ⟨eqv, dr⟩
  · rw [if_neg c2] at H
    have c2b0 : decide (a0 < 32) = false := decide_eq_false c2
    clear c2
    by_cases c3 : a0 ≥ 127
    · rw [if_pos c3] at H
      have c3b0 : decide (127 ≤ a0) = true := decide_eq_true c3
      clear c3
      obtain rfl := Option.some.inj H
      go_enter Tryz.func159, Tryz.ntmps159
      go_wp2
      go_ret
      exact ⟨eqv, dr⟩
    · rw [if_neg c3] at H
      have c3b0 : decide (127 ≤ a0) = false := decide_eq_false c3
      clear c3
      obtain rfl := Option.some.inj H
      go_enter Tryz.func159, Tryz.ntmps159
      go_wp2
      go_ret
      exact ⟨eqv, dr⟩
end Go.Proofs.YtjohcncekfcgpaaGreatDoor.P
end
section
namespace Go.Proofs.YtjohcncekfcgpaaGreatDoor.P
open Go.RowKit Go.Proofs.YtjohcncekfcgpaaGreatDoorW.PrintWords Go.Proofs.YtjohcncekfcgpaaGreatDoorW.PrintLast Go.Proofs.YtjohcncekfcgpaaGreatDoorW.PrintMore
attribute [local go_sem] max2_int min2_int max_two min_two max_three min_three max_four min_four
set_option linter.unusedVariables false
set_option linter.unusedSimpArgs false
def glyph_plain.f (a0 : Int) : Option (Bool) := if a0 ≥ 32 then (some (decide (a0 ≤ 126))) else (some false)
set_option maxHeartbeats 8000000 in
set_option maxRecDepth 100000 in
theorem glyph_plain.calls (a0 : Int) (r : Bool) (w : World) (h : glyph_plain.f a0 = some r) :
    Calls Tryz.prog 217 #[.int .i32 a0] w fun e w' => e = .returned (.bool r) ∧ Drawn0 w w' := by
  have H : (if a0 ≥ 32 then (some (decide (a0 ≤ 126))) else (some false)) = some r := h
  clear h
  by_cases c2 : a0 ≥ 32
  · rw [if_pos c2] at H
    have c2b0 : decide (32 ≤ a0) = true := decide_eq_true c2
    clear c2
    obtain rfl := Option.some.inj H
    go_enter Tryz.func217, Tryz.ntmps217
    go_wp2
    go_ret
    exact ⟨eqv, dr⟩
  · rw [if_neg c2] at H
    have c2b0 : decide (32 ≤ a0) = false := decide_eq_false c2
    clear c2
    obtain rfl := Option.some.inj H
    go_enter Tryz.func217, Tryz.ntmps217
    go_wp2
    go_ret
    exact ⟨eqv, dr⟩
end Go.Proofs.YtjohcncekfcgpaaGreatDoor.P
end
section
namespace Go.Proofs.YtjohcncekfcgpaaGreatDoor.P
open Go.RowKit Go.Proofs.YtjohcncekfcgpaaGreatDoorW.PrintWords Go.Proofs.YtjohcncekfcgpaaGreatDoorW.PrintLast Go.Proofs.YtjohcncekfcgpaaGreatDoorW.PrintMore
attribute [local go_sem] max2_int min2_int max_two min_two max_three min_three max_four min_four
set_option linter.unusedVariables false
set_option linter.unusedSimpArgs false
def head_named.l0 : Nat → ByteArray → Int → Int → Option (Bool)
  | 0, _, _, _ => none
  | k + 1, x0, x6, x7 => if x7 < x6 then (if 0 ≤ x7 then (if x7 < (x0.size : Int) then (if (bt x0 x7) ≤ 32 then (some false) else (if (bt x0 x7) > 126 then (some false) else (if (bt x0 x7) = 58 then (some false) else (head_named.l0 k x0 x6 (wrap64 (x7 + 1)))))) else (none)) else (none)) else (if x0.toList = ([] : List UInt8) then (some false) else (some (decide ((x0.size : Int) ≤ 76))))
def head_named.f (k : Nat) (a0 : ByteArray) : Option (Bool) := head_named.l0 k a0 (a0.size : Int) 0
theorem head_named.mono_l : ∀ k, (∀ y0 y1 y2, LeO (head_named.l0 k y0 y1 y2) (head_named.l0 (k + 1) y0 y1 y2))
  | 0 => fun _ _ _ r h => by simp [head_named.l0] at h
  | k + 1 => by
    have ih0 := head_named.mono_l k
    · intro y0 y1 y2
      unfold head_named.l0
      repeat' first
      | (with_reducible exact ih0 _ _ _)
      | (with_reducible exact LeO.refl _)
      | (with_reducible exact LeO.none _)
      | (with_reducible refine LeO.ite ?_ ?_)
      | (with_reducible refine LeO.bind ?_ (fun _ => ?_))
      | exact ih0 _ _ _
      | exact LeO.none _
      | refine LeO.ite ?_ ?_
      | refine LeO.bind ?_ (fun _ => ?_)
theorem head_named.mono : ∀ a0 k, LeO (head_named.f k a0) (head_named.f (k + 1) a0) := by
  intro a0 k
  have ih0 := head_named.mono_l k
  unfold head_named.f
  repeat' first
      | (with_reducible exact ih0 _ _ _)
      | (with_reducible exact LeO.refl _)
      | (with_reducible exact LeO.none _)
      | (with_reducible refine LeO.ite ?_ ?_)
      | (with_reducible refine LeO.bind ?_ (fun _ => ?_))
      | exact ih0 _ _ _
      | exact LeO.none _
      | refine LeO.ite ?_ ?_
      | refine LeO.bind ?_ (fun _ => ?_)
set_option maxHeartbeats 8000000 in
set_option maxRecDepth 100000 in
theorem head_named.calls (k : Nat) (a0 : ByteArray) (r : Bool) (w : World) (h : head_named.f k a0 = some r) :
    Calls Tryz.prog 73 #[.string a0] w fun e w' => e = .returned (.bool r) ∧ Drawn0 w w' := by
  have H : (head_named.l0 k a0 (a0.size : Int) 0) = some r := h
  clear h
  have H' := Aside0.mk H
  clear H
  go_enter Tryz.func73, Tryz.ntmps73
  go_wp2
  go_loopg [7] k (fun kq v7 w' => ∃ (x7_1 : Int), v7 = .int .i64 x7_1 ∧ Aside0 (head_named.l0 kq a0 (a0.size : Int) x7_1 = some r) ∧ Aside0 (kq ≤ k) ∧ Drawn0 w w')
  case atStart => exact ⟨(0), eqv, H', ⟨Nat.le_refl _⟩, dr⟩
  case round =>
    clear H'
    obtain ⟨x7_1, rfl, HA, HK1, ⟨m1, rfl⟩⟩ := hrel
    cases gk with
    | zero => exact absurd HA.out (by simp [head_named.l0])
    | succ k1 =>
      have H := HA.out
      clear HA
      simp only [head_named.l0] at H
      by_cases c2 : x7_1 < (a0.size : Int)
      · rw [if_pos c2] at H
        have c2b0 : decide (x7_1 < (a0.size : Int)) = true := decide_eq_true c2
        clear c2
        by_cases c3 : 0 ≤ x7_1
        · rw [if_pos c3] at H
          have c3b0 : decide (0 ≤ x7_1) = true := decide_eq_true c3
          clear c3
          by_cases c4 : x7_1 < (a0.size : Int)
          · rw [if_pos c4] at H
            have c4b0 : decide (x7_1 < (a0.size : Int)) = true := decide_eq_true c4
            clear c4
            by_cases c6 : (bt a0 x7_1) ≤ 32
            · rw [if_pos c6] at H
              have c6b0 : decide ((bt a0 x7_1) ≤ 32) = true := decide_eq_true c6
              clear c6
              obtain rfl := Option.some.inj H
              have p5 : 0 ≤ (x7_1 : Int) := of_decide_eq_true asm
              have q5 : x7_1 < (a0.size : Int) := of_decide_eq_true asm
              have hx5 := bt_at a0 x7_1
              replace p5 := eq_true p5
              replace q5 := eq_true q5
              go_wp2
              go_ret
              exact ⟨eqv, dr⟩
            · rw [if_neg c6] at H
              have c6b0 : decide ((bt a0 x7_1) ≤ 32) = false := decide_eq_false c6
              clear c6
              by_cases c7 : (bt a0 x7_1) > 126
              · rw [if_pos c7] at H
                have c7b0 : decide (126 < (bt a0 x7_1)) = true := decide_eq_true c7
                clear c7
                obtain rfl := Option.some.inj H
                have p5 : 0 ≤ (x7_1 : Int) := of_decide_eq_true asm
                have q5 : x7_1 < (a0.size : Int) := of_decide_eq_true asm
                have hx5 := bt_at a0 x7_1
                replace p5 := eq_true p5
                replace q5 := eq_true q5
                go_wp2
                go_ret
                exact ⟨eqv, dr⟩
              · rw [if_neg c7] at H
                have c7b0 : decide (126 < (bt a0 x7_1)) = false := decide_eq_false c7
                clear c7
                by_cases c8 : (bt a0 x7_1) = 58
                · rw [if_pos c8] at H
                  have c8b0 : ((bt a0 x7_1) == 58) = true := beq_iff_eq.mpr c8
                  have c8b1 : ((bt a0 x7_1) != 58) = false := bne_eq_false_iff_eq.mpr c8
                  clear c8
                  obtain rfl := Option.some.inj H
                  have p5 : 0 ≤ (x7_1 : Int) := of_decide_eq_true asm
                  have q5 : x7_1 < (a0.size : Int) := of_decide_eq_true asm
                  have hx5 := bt_at a0 x7_1
                  replace p5 := eq_true p5
                  replace q5 := eq_true q5
                  go_wp2
                  go_ret
                  exact ⟨eqv, dr⟩
                · rw [if_neg c8] at H
                  have c8b0 : ((bt a0 x7_1) == 58) = false := beq_eq_false_iff_ne.mpr c8
                  have c8b1 : ((bt a0 x7_1) != 58) = true := bne_iff_ne.mpr c8
                  have H' := Aside0.mk H
                  clear H
                  have p5 : 0 ≤ (x7_1 : Int) := of_decide_eq_true asm
                  have q5 : x7_1 < (a0.size : Int) := of_decide_eq_true asm
                  have hx5 := bt_at a0 x7_1
                  replace p5 := eq_true p5
                  replace q5 := eq_true q5
                  go_wp2
                  go_roundg k1
                  case measure => have := HK1.out; omega
                  case rel => exact ⟨(wrap64 (x7_1 + 1)), eqv, H', ⟨by have := HK1.out; omega⟩, dr⟩
          · rw [if_neg c4] at H
            exact absurd H (by simp)
        · rw [if_neg c3] at H
          exact absurd H (by simp)
      · rw [if_neg c2] at H
        have c2b0 : decide (x7_1 < (a0.size : Int)) = false := decide_eq_false c2
        clear c2
        by_cases c9 : a0.toList = ([] : List UInt8)
        · rw [if_pos c9] at H
          have c9b0 : (a0.toList == ([] : List UInt8)) = true := beq_iff_eq.mpr c9
          have c9b1 : (a0.toList != ([] : List UInt8)) = false := bne_eq_false_iff_eq.mpr c9
          have c9bE : (a0.toList).isEmpty = true := List.isEmpty_iff.mpr c9
          clear c9
          obtain rfl := Option.some.inj H
          go_wp2
          go_ret
          exact ⟨eqv, dr⟩
        · rw [if_neg c9] at H
          have c9b0 : (a0.toList == ([] : List UInt8)) = false := beq_eq_false_iff_ne.mpr c9
          have c9b1 : (a0.toList != ([] : List UInt8)) = true := bne_iff_ne.mpr c9
          have c9bE : (a0.toList).isEmpty = false := List.isEmpty_eq_false_iff.mpr c9
          obtain rfl := Option.some.inj H
          go_wp2
          go_ret
          exact ⟨eqv, dr⟩
end Go.Proofs.YtjohcncekfcgpaaGreatDoor.P
end
section
namespace Go.Proofs.YtjohcncekfcgpaaGreatDoor.P
open Go.RowKit Go.Proofs.YtjohcncekfcgpaaGreatDoorW.PrintWords Go.Proofs.YtjohcncekfcgpaaGreatDoorW.PrintLast Go.Proofs.YtjohcncekfcgpaaGreatDoorW.PrintMore
attribute [local go_sem] max2_int min2_int max_two min_two max_three min_three max_four min_four
set_option linter.unusedVariables false
set_option linter.unusedSimpArgs false
def head_piece.f (a0 : ByteArray) : Option (Int) := (strings_TrimLeft.f a0 (⟨#[32, 9]⟩ : ByteArray)).bind fun t1203 => (if 0 ≤ (wrap64 ((a0.size : Int) - (t1203.size : Int))) then (if (wrap64 ((a0.size : Int) - (t1203.size : Int))) ≤ (a0.size : Int) then ((strings_IndexAny.f (a0.extract ((wrap64 ((a0.size : Int) - (t1203.size : Int))) : Int).toNat a0.size) (⟨#[32, 9]⟩ : ByteArray)).bind fun t1204 => (if t1204 ≥ 0 then (some (wrap64 ((wrap64 ((a0.size : Int) - (t1203.size : Int))) + t1204))) else (some (a0.size : Int)))) else (none)) else (none))
set_option maxHeartbeats 8000000 in
set_option maxRecDepth 100000 in
theorem head_piece.calls (a0 : ByteArray) (r : Int) (w : World) (h : head_piece.f a0 = some r) :
    Calls Tryz.prog 132 #[.string a0] w fun e w' => e = .returned (.int .i64 r) ∧ Below w.heap.size w w' := by
  have HB := Aside0.mk (Below.refl w.heap.size w)
  have H : ((strings_TrimLeft.f a0 (⟨#[32, 9]⟩ : ByteArray)).bind fun t1203 => (if 0 ≤ (wrap64 ((a0.size : Int) - (t1203.size : Int))) then (if (wrap64 ((a0.size : Int) - (t1203.size : Int))) ≤ (a0.size : Int) then ((strings_IndexAny.f (a0.extract ((wrap64 ((a0.size : Int) - (t1203.size : Int))) : Int).toNat a0.size) (⟨#[32, 9]⟩ : ByteArray)).bind fun t1204 => (if t1204 ≥ 0 then (some (wrap64 ((wrap64 ((a0.size : Int) - (t1203.size : Int))) + t1204))) else (some (a0.size : Int)))) else (none)) else (none))) = some r := h
  clear h
  replace H := Option.bind_eq_some_iff.mp H
  obtain ⟨t1203, A20, H⟩ := H
  replace H : (if 0 ≤ (wrap64 ((a0.size : Int) - (t1203.size : Int))) then (if (wrap64 ((a0.size : Int) - (t1203.size : Int))) ≤ (a0.size : Int) then ((strings_IndexAny.f (a0.extract ((wrap64 ((a0.size : Int) - (t1203.size : Int))) : Int).toNat a0.size) (⟨#[32, 9]⟩ : ByteArray)).bind fun t1204 => (if t1204 ≥ 0 then (some (wrap64 ((wrap64 ((a0.size : Int) - (t1203.size : Int))) + t1204))) else (some (a0.size : Int)))) else (none)) else (none)) = some r := H
  have A2 := Aside0.mk A20
  clear A20
  obtain ⟨ji3, hji3⟩ : ∃ j_ : Int, (wrap64 ((a0.size : Int) - (t1203.size : Int))) = j_ := ⟨_, rfl⟩
  replace H : (if 0 ≤ (ji3) then (if (ji3) ≤ (a0.size : Int) then ((strings_IndexAny.f (a0.extract ((ji3) : Int).toNat a0.size) (⟨#[32, 9]⟩ : ByteArray)).bind fun t1204 => (if t1204 ≥ 0 then (some (wrap64 ((ji3) + t1204))) else (some (a0.size : Int)))) else (none)) else (none)) = some r := by first | (rw [hji3] at H; exact H) | (simp only [hji3] at H ⊢; exact H)
  (try rw [hji3] at A2)
  have hji3w : (IntKind.i64.wrap ((a0.size : Int) - (t1203.size : Int))) = ji3 := (i64_w _).trans hji3
  by_cases c4 : 0 ≤ (ji3)
  · rw [if_pos c4] at H
    have c4b0 := eq_true c4
    have c4b1 : decide (0 ≤ (ji3)) = true := decide_eq_true c4
    clear c4
    by_cases c5 : (ji3) ≤ (a0.size : Int)
    · rw [if_pos c5] at H
      have c5b0 := eq_true c5
      have c5b1 : decide ((ji3) ≤ (a0.size : Int)) = true := decide_eq_true c5
      clear c5
      replace H := Option.bind_eq_some_iff.mp H
      obtain ⟨t1204, A60, H⟩ := H
      replace H : (if t1204 ≥ 0 then (some (wrap64 ((ji3) + t1204))) else (some (a0.size : Int))) = some r := H
      have A6 := Aside0.mk A60
      clear A60
      by_cases c7 : t1204 ≥ 0
      · rw [if_pos c7] at H
        have c7b0 : decide (0 ≤ t1204) = true := decide_eq_true c7
        clear c7
        obtain rfl := Option.some.inj H
        go_enter Tryz.func132, Tryz.ntmps132
        go_wp2_with (first | ((with_reducible refine gate_callee (f := 162) rfl ?_); refine goesM (some 8) Tryz.func162 #[.string a0, .string (⟨#[32, 9]⟩ : ByteArray)] ?_; (with_reducible refine (strings_TrimLeft.calls a0 (⟨#[32, 9]⟩ : ByteArray) t1203 _ A2.out).mono ?_); rintro e w8 ⟨rfl, hb⟩; refine ⟨_, rfl, ?_⟩; have n0_ := Aside0.mk (below_step bw hb); clear HB; have HB := n0_; clear n0_; (try clear hb); (try clear hb2); (try clear hk); (try clear hi)) | ((with_reducible refine gate_callee (f := 83) rfl ?_); refine goesL_ (some 14) rfl rfl Tryz.func83 (by kernel_rfl) rfl #[.string (a0.extract ((ji3) : Int).toNat a0.size), .string (⟨#[32, 9]⟩ : ByteArray)] rfl (by (try simp only [List.map_toArray, List.map_cons, List.map_nil]); first | done | (simp only [hji3]; rfl) | rfl | (simp only [List.length_drop, List.length_take]; rfl)) ?_; (with_reducible refine (strings_IndexAny.calls (a0.extract ((ji3) : Int).toNat a0.size) (⟨#[32, 9]⟩ : ByteArray) t1204 _ A6.out).mono ?_); rintro e w9 ⟨rfl, hb⟩; refine ⟨_, rfl, ?_⟩; have n0_ := Aside0.mk (below_step bw hb); clear HB; have HB := n0_; clear n0_; (try clear hb); (try clear hb2); (try clear hk); (try clear hi)))
        go_ret
        exact ⟨by first | rfl | (simp [errW_none, errW_some] <;> rfl) | (simp only [← hji3]; first | rfl | (simp [errW_none, errW_some] <;> rfl)) | (simp [*, errW_none, errW_some] <;> rfl), bw⟩
      · rw [if_neg c7] at H
        have c7b0 : decide (0 ≤ t1204) = false := decide_eq_false c7
        clear c7
        obtain rfl := Option.some.inj H
        go_enter Tryz.func132, Tryz.ntmps132
        go_wp2_with (first | ((with_reducible refine gate_callee (f := 162) rfl ?_); refine goesM (some 8) Tryz.func162 #[.string a0, .string (⟨#[32, 9]⟩ : ByteArray)] ?_; (with_reducible refine (strings_TrimLeft.calls a0 (⟨#[32, 9]⟩ : ByteArray) t1203 _ A2.out).mono ?_); rintro e w10 ⟨rfl, hb⟩; refine ⟨_, rfl, ?_⟩; have n0_ := Aside0.mk (below_step bw hb); clear HB; have HB := n0_; clear n0_; (try clear hb); (try clear hb2); (try clear hk); (try clear hi)) | ((with_reducible refine gate_callee (f := 83) rfl ?_); refine goesL_ (some 14) rfl rfl Tryz.func83 (by kernel_rfl) rfl #[.string (a0.extract ((ji3) : Int).toNat a0.size), .string (⟨#[32, 9]⟩ : ByteArray)] rfl (by (try simp only [List.map_toArray, List.map_cons, List.map_nil]); first | done | (simp only [hji3]; rfl) | rfl | (simp only [List.length_drop, List.length_take]; rfl)) ?_; (with_reducible refine (strings_IndexAny.calls (a0.extract ((ji3) : Int).toNat a0.size) (⟨#[32, 9]⟩ : ByteArray) t1204 _ A6.out).mono ?_); rintro e w11 ⟨rfl, hb⟩; refine ⟨_, rfl, ?_⟩; have n0_ := Aside0.mk (below_step bw hb); clear HB; have HB := n0_; clear n0_; (try clear hb); (try clear hb2); (try clear hk); (try clear hi)))
        go_ret
        exact ⟨by first | rfl | (simp [errW_none, errW_some] <;> rfl) | (simp only [← hji3]; first | rfl | (simp [errW_none, errW_some] <;> rfl)) | (simp [*, errW_none, errW_some] <;> rfl), bw⟩
    · rw [if_neg c5] at H
      exact absurd H (by simp)
  · rw [if_neg c4] at H
    exact absurd H (by simp)
end Go.Proofs.YtjohcncekfcgpaaGreatDoor.P
end
section
namespace Go.Proofs.YtjohcncekfcgpaaGreatDoor.P
open Go.RowKit Go.Proofs.YtjohcncekfcgpaaGreatDoorW.PrintWords Go.Proofs.YtjohcncekfcgpaaGreatDoorW.PrintLast Go.Proofs.YtjohcncekfcgpaaGreatDoorW.PrintMore
attribute [local go_sem] max2_int min2_int max_two min_two max_three min_three max_four min_four
set_option linter.unusedVariables false
set_option linter.unusedSimpArgs false
def head_text.l0 : Nat → ByteArray → Int → Int → Option (Bool)
  | 0, _, _, _ => none
  | k + 1, x0, x6, x7 => if x7 < x6 then (if 0 ≤ x7 then (if x7 < (x0.size : Int) then (if (bt x0 x7) < 32 then (if (bt x0 x7) = 9 then (if (bt x0 x7) = 127 then (some false) else (head_text.l0 k x0 x6 (wrap64 (x7 + 1)))) else (some false)) else (if (bt x0 x7) = 127 then (some false) else (head_text.l0 k x0 x6 (wrap64 (x7 + 1))))) else (none)) else (none)) else (some true)
def head_text.f (k : Nat) (a0 : ByteArray) : Option (Bool) := head_text.l0 k a0 (a0.size : Int) 0
theorem head_text.mono_l : ∀ k, (∀ y0 y1 y2, LeO (head_text.l0 k y0 y1 y2) (head_text.l0 (k + 1) y0 y1 y2))
  | 0 => fun _ _ _ r h => by simp [head_text.l0] at h
  | k + 1 => by
    have ih0 := head_text.mono_l k
    · intro y0 y1 y2
      unfold head_text.l0
      repeat' first
      | (with_reducible exact ih0 _ _ _)
      | (with_reducible exact LeO.refl _)
      | (with_reducible exact LeO.none _)
      | (with_reducible refine LeO.ite ?_ ?_)
      | (with_reducible refine LeO.bind ?_ (fun _ => ?_))
      | exact ih0 _ _ _
      | exact LeO.none _
      | refine LeO.ite ?_ ?_
      | refine LeO.bind ?_ (fun _ => ?_)
theorem head_text.mono : ∀ a0 k, LeO (head_text.f k a0) (head_text.f (k + 1) a0) := by
  intro a0 k
  have ih0 := head_text.mono_l k
  unfold head_text.f
  repeat' first
      | (with_reducible exact ih0 _ _ _)
      | (with_reducible exact LeO.refl _)
      | (with_reducible exact LeO.none _)
      | (with_reducible refine LeO.ite ?_ ?_)
      | (with_reducible refine LeO.bind ?_ (fun _ => ?_))
      | exact ih0 _ _ _
      | exact LeO.none _
      | refine LeO.ite ?_ ?_
      | refine LeO.bind ?_ (fun _ => ?_)
set_option maxHeartbeats 8000000 in
set_option maxRecDepth 100000 in
theorem head_text.calls (k : Nat) (a0 : ByteArray) (r : Bool) (w : World) (h : head_text.f k a0 = some r) :
    Calls Tryz.prog 74 #[.string a0] w fun e w' => e = .returned (.bool r) ∧ Drawn0 w w' := by
  have H : (head_text.l0 k a0 (a0.size : Int) 0) = some r := h
  clear h
  have H' := Aside0.mk H
  clear H
  go_enter Tryz.func74, Tryz.ntmps74
  go_wp2
  go_loopg [7] k (fun kq v7 w' => ∃ (x7_1 : Int), v7 = .int .i64 x7_1 ∧ Aside0 (head_text.l0 kq a0 (a0.size : Int) x7_1 = some r) ∧ Aside0 (kq ≤ k) ∧ Drawn0 w w')
  case atStart => exact ⟨(0), eqv, H', ⟨Nat.le_refl _⟩, dr⟩
  case round =>
    clear H'
    obtain ⟨x7_1, rfl, HA, HK1, ⟨m1, rfl⟩⟩ := hrel
    cases gk with
    | zero => exact absurd HA.out (by simp [head_text.l0])
    | succ k1 =>
      have H := HA.out
      clear HA
      simp only [head_text.l0] at H
      by_cases c2 : x7_1 < (a0.size : Int)
      · rw [if_pos c2] at H
        have c2b0 : decide (x7_1 < (a0.size : Int)) = true := decide_eq_true c2
        clear c2
        by_cases c3 : 0 ≤ x7_1
        · rw [if_pos c3] at H
          have c3b0 : decide (0 ≤ x7_1) = true := decide_eq_true c3
          clear c3
          by_cases c4 : x7_1 < (a0.size : Int)
          · rw [if_pos c4] at H
            have c4b0 : decide (x7_1 < (a0.size : Int)) = true := decide_eq_true c4
            clear c4
            by_cases c6 : (bt a0 x7_1) < 32
            · rw [if_pos c6] at H
              have c6b0 : decide ((bt a0 x7_1) < 32) = true := decide_eq_true c6
              clear c6
              by_cases c7 : (bt a0 x7_1) = 9
              · rw [if_pos c7] at H
                have c7b0 : ((bt a0 x7_1) == 9) = true := beq_iff_eq.mpr c7
                have c7b1 : ((bt a0 x7_1) != 9) = false := bne_eq_false_iff_eq.mpr c7
                clear c7
                by_cases c8 : (bt a0 x7_1) = 127
                · rw [if_pos c8] at H
                  have c8b0 : ((bt a0 x7_1) == 127) = true := beq_iff_eq.mpr c8
                  have c8b1 : ((bt a0 x7_1) != 127) = false := bne_eq_false_iff_eq.mpr c8
                  clear c8
                  obtain rfl := Option.some.inj H
                  have p5 : 0 ≤ (x7_1 : Int) := of_decide_eq_true asm
                  have q5 : x7_1 < (a0.size : Int) := of_decide_eq_true asm
                  have hx5 := bt_at a0 x7_1
                  replace p5 := eq_true p5
                  replace q5 := eq_true q5
                  go_wp2
                  go_ret
                  exact ⟨eqv, dr⟩
                · rw [if_neg c8] at H
                  have c8b0 : ((bt a0 x7_1) == 127) = false := beq_eq_false_iff_ne.mpr c8
                  have c8b1 : ((bt a0 x7_1) != 127) = true := bne_iff_ne.mpr c8
                  have H' := Aside0.mk H
                  clear H
                  have p5 : 0 ≤ (x7_1 : Int) := of_decide_eq_true asm
                  have q5 : x7_1 < (a0.size : Int) := of_decide_eq_true asm
                  have hx5 := bt_at a0 x7_1
                  replace p5 := eq_true p5
                  replace q5 := eq_true q5
                  go_wp2
                  go_roundg k1
                  case measure => have := HK1.out; omega
                  case rel => exact ⟨(wrap64 (x7_1 + 1)), eqv, H', ⟨by have := HK1.out; omega⟩, dr⟩
              · rw [if_neg c7] at H
                have c7b0 : ((bt a0 x7_1) == 9) = false := beq_eq_false_iff_ne.mpr c7
                have c7b1 : ((bt a0 x7_1) != 9) = true := bne_iff_ne.mpr c7
                obtain rfl := Option.some.inj H
                have p5 : 0 ≤ (x7_1 : Int) := of_decide_eq_true asm
                have q5 : x7_1 < (a0.size : Int) := of_decide_eq_true asm
                have hx5 := bt_at a0 x7_1
                replace p5 := eq_true p5
                replace q5 := eq_true q5
                go_wp2
                go_ret
                exact ⟨eqv, dr⟩
            · rw [if_neg c6] at H
              have c6b0 : decide ((bt a0 x7_1) < 32) = false := decide_eq_false c6
              clear c6
              by_cases c9 : (bt a0 x7_1) = 127
              · rw [if_pos c9] at H
                have c9b0 : ((bt a0 x7_1) == 127) = true := beq_iff_eq.mpr c9
                have c9b1 : ((bt a0 x7_1) != 127) = false := bne_eq_false_iff_eq.mpr c9
                clear c9
                obtain rfl := Option.some.inj H
                have p5 : 0 ≤ (x7_1 : Int) := of_decide_eq_true asm
                have q5 : x7_1 < (a0.size : Int) := of_decide_eq_true asm
                have hx5 := bt_at a0 x7_1
                replace p5 := eq_true p5
                replace q5 := eq_true q5
                go_wp2
                go_ret
                exact ⟨eqv, dr⟩
              · rw [if_neg c9] at H
                have c9b0 : ((bt a0 x7_1) == 127) = false := beq_eq_false_iff_ne.mpr c9
                have c9b1 : ((bt a0 x7_1) != 127) = true := bne_iff_ne.mpr c9
                have H' := Aside0.mk H
                clear H
                have p5 : 0 ≤ (x7_1 : Int) := of_decide_eq_true asm
                have q5 : x7_1 < (a0.size : Int) := of_decide_eq_true asm
                have hx5 := bt_at a0 x7_1
                replace p5 := eq_true p5
                replace q5 := eq_true q5
                go_wp2
                go_roundg k1
                case measure => have := HK1.out; omega
                case rel => exact ⟨(wrap64 (x7_1 + 1)), eqv, H', ⟨by have := HK1.out; omega⟩, dr⟩
          · rw [if_neg c4] at H
            exact absurd H (by simp)
        · rw [if_neg c3] at H
          exact absurd H (by simp)
      · rw [if_neg c2] at H
        have c2b0 : decide (x7_1 < (a0.size : Int)) = false := decide_eq_false c2
        clear c2
        obtain rfl := Option.some.inj H
        go_wp2
        go_ret
        exact ⟨eqv, dr⟩
end Go.Proofs.YtjohcncekfcgpaaGreatDoor.P
end
section
namespace Go.Proofs.YtjohcncekfcgpaaGreatDoor.P
open Go.RowKit Go.Proofs.YtjohcncekfcgpaaGreatDoorW.PrintWords Go.Proofs.YtjohcncekfcgpaaGreatDoorW.PrintLast Go.Proofs.YtjohcncekfcgpaaGreatDoorW.PrintMore
attribute [local go_sem] max2_int min2_int max_two min_two max_three min_three max_four min_four
set_option linter.unusedVariables false
set_option linter.unusedSimpArgs false
def head_trim.f (a0 : ByteArray) : Option (ByteArray) := (strings_Trim.f a0 (⟨#[32, 9]⟩ : ByteArray)).bind fun t101 => (some t101)
set_option maxHeartbeats 8000000 in
set_option maxRecDepth 100000 in
theorem head_trim.calls (a0 : ByteArray) (r : ByteArray) (w : World) (h : head_trim.f a0 = some r) :
    Calls Tryz.prog 75 #[.string a0] w fun e w' => e = .returned (.string r) ∧ Below w.heap.size w w' := by
  have HB := Aside0.mk (Below.refl w.heap.size w)
  have H : ((strings_Trim.f a0 (⟨#[32, 9]⟩ : ByteArray)).bind fun t101 => (some t101)) = some r := h
  clear h
  replace H := Option.bind_eq_some_iff.mp H
  obtain ⟨t101, A20, H⟩ := H
  replace H : (some t101) = some r := H
  have A2 := Aside0.mk A20
  clear A20
  obtain rfl := Option.some.inj H
  go_enter Tryz.func75, Tryz.ntmps75
  go_wp2_with (first | ((with_reducible refine gate_callee (f := 126) rfl ?_); refine goesM (some 4) Tryz.func126 #[.string a0, .string (⟨#[32, 9]⟩ : ByteArray)] ?_; (with_reducible refine (strings_Trim.calls a0 (⟨#[32, 9]⟩ : ByteArray) t101 _ A2.out).mono ?_); rintro e w3 ⟨rfl, hb⟩; refine ⟨_, rfl, ?_⟩; have n0_ := Aside0.mk (below_step bw hb); clear HB; have HB := n0_; clear n0_; (try clear hb); (try clear hb2); (try clear hk); (try clear hi)))
  go_ret
  exact ⟨eqe, bw⟩
end Go.Proofs.YtjohcncekfcgpaaGreatDoor.P
end
section
namespace Go.Proofs.YtjohcncekfcgpaaGreatDoor.P
open Go.RowKit Go.Proofs.YtjohcncekfcgpaaGreatDoorW.PrintWords Go.Proofs.YtjohcncekfcgpaaGreatDoorW.PrintLast Go.Proofs.YtjohcncekfcgpaaGreatDoorW.PrintMore
attribute [local go_sem] max2_int min2_int max_two min_two max_three min_three max_four min_four
set_option linter.unusedVariables false
set_option linter.unusedSimpArgs false
def head_white.f (a0 : ByteArray) : Option (Bool) := if a0.toList = ([] : List UInt8) then (some false) else (if 0 < (a0.size : Int) then (if (bt a0 0) = 32 then (some true) else (some ((bt a0 0) == 9))) else (none))
set_option maxHeartbeats 8000000 in
set_option maxRecDepth 100000 in
theorem head_white.calls (a0 : ByteArray) (r : Bool) (w : World) (h : head_white.f a0 = some r) :
    Calls Tryz.prog 167 #[.string a0] w fun e w' => e = .returned (.bool r) ∧ Drawn0 w w' := by
  have H : (if a0.toList = ([] : List UInt8) then (some false) else (if 0 < (a0.size : Int) then (if (bt a0 0) = 32 then (some true) else (some ((bt a0 0) == 9))) else (none))) = some r := h
  clear h
  by_cases c2 : a0.toList = ([] : List UInt8)
  · rw [if_pos c2] at H
    have c2b0 : (a0.toList == ([] : List UInt8)) = true := beq_iff_eq.mpr c2
    have c2b1 : (a0.toList != ([] : List UInt8)) = false := bne_eq_false_iff_eq.mpr c2
    have c2bE : (a0.toList).isEmpty = true := List.isEmpty_iff.mpr c2
    clear c2
    obtain rfl := Option.some.inj H
    go_enter Tryz.func167, Tryz.ntmps167
    go_wp2
    go_ret
    exact ⟨eqv, dr⟩
  · rw [if_neg c2] at H
    have c2b0 : (a0.toList == ([] : List UInt8)) = false := beq_eq_false_iff_ne.mpr c2
    have c2b1 : (a0.toList != ([] : List UInt8)) = true := bne_iff_ne.mpr c2
    have c2bE : (a0.toList).isEmpty = false := List.isEmpty_eq_false_iff.mpr c2
    by_cases c3 : 0 < (a0.size : Int)
    · rw [if_pos c3] at H
      have c3b0 : decide (0 < (a0.size : Int)) = true := decide_eq_true c3
      have c3b1 : decide (0 < a0.size) = true := decide_eq_true (by omega)
      clear c3
      by_cases c5 : (bt a0 0) = 32
      · rw [if_pos c5] at H
        have c5b0 : ((bt a0 0) == 32) = true := beq_iff_eq.mpr c5
        have c5b1 : ((bt a0 0) != 32) = false := bne_eq_false_iff_eq.mpr c5
        clear c5
        obtain rfl := Option.some.inj H
        have p4 : 0 ≤ (0 : Int) := (by omega)
        have q4 : 0 < a0.size := (by have : (0 : Int) < (a0.size : Int) := of_decide_eq_true asm; omega)
        have hx4 : ∀ h : 0 < a0.size, ((a0[0]'h).toNat : Int) = bt a0 0 := bt_at a0 0
        clear p4
        have qi4 : (0 < (a0.size : Int)) = True := eq_true (of_decide_eq_true asm)
        replace q4 := eq_true q4
        go_enter Tryz.func167, Tryz.ntmps167
        go_wp2
        go_ret
        exact ⟨eqv, dr⟩
      · rw [if_neg c5] at H
        have c5b0 : ((bt a0 0) == 32) = false := beq_eq_false_iff_ne.mpr c5
        have c5b1 : ((bt a0 0) != 32) = true := bne_iff_ne.mpr c5
        obtain rfl := Option.some.inj H
        have p4 : 0 ≤ (0 : Int) := (by omega)
        have q4 : 0 < a0.size := (by have : (0 : Int) < (a0.size : Int) := of_decide_eq_true asm; omega)
        have hx4 : ∀ h : 0 < a0.size, ((a0[0]'h).toNat : Int) = bt a0 0 := bt_at a0 0
        clear p4
        have qi4 : (0 < (a0.size : Int)) = True := eq_true (of_decide_eq_true asm)
        replace q4 := eq_true q4
        have p6 : 0 ≤ (0 : Int) := (by omega)
        have q6 : 0 < a0.size := (by have : (0 : Int) < (a0.size : Int) := of_decide_eq_true asm; omega)
        have hx6 : ∀ h : 0 < a0.size, ((a0[0]'h).toNat : Int) = bt a0 0 := bt_at a0 0
        clear p6
        have qi6 : (0 < (a0.size : Int)) = True := eq_true (of_decide_eq_true asm)
        replace q6 := eq_true q6
        go_enter Tryz.func167, Tryz.ntmps167
        go_wp2
        go_ret
        exact ⟨eqv, dr⟩
    · rw [if_neg c3] at H
      exact absurd H (by simp)
end Go.Proofs.YtjohcncekfcgpaaGreatDoor.P
end
section
namespace Go.Proofs.YtjohcncekfcgpaaGreatDoor.P
open Go.RowKit Go.Proofs.YtjohcncekfcgpaaGreatDoorW.PrintWords Go.Proofs.YtjohcncekfcgpaaGreatDoorW.PrintLast Go.Proofs.YtjohcncekfcgpaaGreatDoorW.PrintMore
attribute [local go_sem] max2_int min2_int max_two min_two max_three min_three max_four min_four
set_option linter.unusedVariables false
set_option linter.unusedSimpArgs false
mutual
def head_grow.j0 : Nat → List (S47) → ByteArray → Bool → Option ((List (S47)) × Int)
  | 0, _, _, _ => none
  | k + 1, x0, x1, x13 => if x13 = true then (some (([] : List (S47)), 150)) else ((head_white.f x1).bind fun t104 => (if t104 = true then (if 0 ≤ (wrap64 ((x0.length : Int) - 1)) then (if (wrap64 ((x0.length : Int) - 1)) < (x0.length : Int) then (if ((rd_T47 x0 (wrap64 ((x0.length : Int) - 1))).f1).size + x1.size ≤ 9223372036854775807 then (some ((x0.set ((wrap64 ((x0.length : Int) - 1)) : Int).toNat (⟨(rd_T47 x0 (wrap64 ((x0.length : Int) - 1))).f0, ((rd_T47 x0 (wrap64 ((x0.length : Int) - 1))).f1) ++ x1⟩ : S47)), 0)) else (none)) else (none)) else (none)) else ((strings_Cut.f x1 (⟨#[58]⟩ : ByteArray)).bind fun bt107 => (if bt107.2.2 = true then ((head_named.f k bt107.1).bind fun t110 => (head_grow.j1 k x0 bt107.1 bt107.2.1 (!t110))) else (head_grow.j1 k x0 bt107.1 bt107.2.1 true)))))
def head_grow.j1 : Nat → List (S47) → ByteArray → ByteArray → Bool → Option ((List (S47)) × Int)
  | 0, _, _, _, _ => none
  | k + 1, x0, x6, x7, x47 => if x47 = true then (some (([] : List (S47)), 150)) else (if (x0.length : Int) = 100 then (some (([] : List (S47)), 8)) else (if x0.length < 4398046511104 then (some ((x0 ++ [(⟨x6, x7⟩ : S47)]), 0)) else (none)))
end
def head_grow.f (k : Nat) (l0 : List (S47)) (a1 : ByteArray) : Option ((List (S47)) × Int) := if (a1.size : Int) > 998 then (some (([] : List (S47)), 2)) else ((head_text.f k a1).bind fun t102 => (if t102 = true then ((head_white.f a1).bind fun t103 => (if t103 = true then (head_grow.j0 k l0 a1 ((l0.length : Int) == 0)) else (head_grow.j0 k l0 a1 false))) else (head_grow.j0 k l0 a1 true)))
theorem head_grow.mono_l : ∀ k, (∀ y0 y1 y2, LeO (head_grow.j0 k y0 y1 y2) (head_grow.j0 (k + 1) y0 y1 y2)) ∧ (∀ y0 y1 y2 y3, LeO (head_grow.j1 k y0 y1 y2 y3) (head_grow.j1 (k + 1) y0 y1 y2 y3))
  | 0 => ⟨fun _ _ _ r h => by simp [head_grow.j0] at h, fun _ _ _ _ r h => by simp [head_grow.j1] at h⟩
  | k + 1 => by
    obtain ⟨ih0, ih1⟩ := head_grow.mono_l k
    refine ⟨?_, ?_⟩
    · intro y0 y1 y2
      unfold head_grow.j0
      repeat' first
      | (with_reducible exact ih0 _ _ _)
      | (with_reducible exact ih1 _ _ _ _)
      | (with_reducible exact head_named.mono _ _)
      | (with_reducible exact head_text.mono _ _)
      | (with_reducible exact LeO.refl _)
      | (with_reducible exact LeO.none _)
      | (with_reducible refine LeO.ite ?_ ?_)
      | (with_reducible refine LeO.bind ?_ (fun _ => ?_))
      | exact ih0 _ _ _
      | exact ih1 _ _ _ _
      | exact head_named.mono _ _
      | exact head_text.mono _ _
      | exact LeO.none _
      | refine LeO.ite ?_ ?_
      | refine LeO.bind ?_ (fun _ => ?_)
    · intro y0 y1 y2 y3
      unfold head_grow.j1
      repeat' first
      | (with_reducible exact ih0 _ _ _)
      | (with_reducible exact ih1 _ _ _ _)
      | (with_reducible exact head_named.mono _ _)
      | (with_reducible exact head_text.mono _ _)
      | (with_reducible exact LeO.refl _)
      | (with_reducible exact LeO.none _)
      | (with_reducible refine LeO.ite ?_ ?_)
      | (with_reducible refine LeO.bind ?_ (fun _ => ?_))
      | exact ih0 _ _ _
      | exact ih1 _ _ _ _
      | exact head_named.mono _ _
      | exact head_text.mono _ _
      | exact LeO.none _
      | refine LeO.ite ?_ ?_
      | refine LeO.bind ?_ (fun _ => ?_)
theorem head_grow.mono : ∀ a0 a1 k, LeO (head_grow.f k a0 a1) (head_grow.f (k + 1) a0 a1) := by
  intro a0 a1 k
  obtain ⟨ih0, ih1⟩ := head_grow.mono_l k
  unfold head_grow.f
  repeat' first
      | (with_reducible exact ih0 _ _ _)
      | (with_reducible exact ih1 _ _ _ _)
      | (with_reducible exact head_named.mono _ _)
      | (with_reducible exact head_text.mono _ _)
      | (with_reducible exact LeO.refl _)
      | (with_reducible exact LeO.none _)
      | (with_reducible refine LeO.ite ?_ ?_)
      | (with_reducible refine LeO.bind ?_ (fun _ => ?_))
      | exact ih0 _ _ _
      | exact ih1 _ _ _ _
      | exact head_named.mono _ _
      | exact head_text.mono _ _
      | exact LeO.none _
      | refine LeO.ite ?_ ?_
      | refine LeO.bind ?_ (fun _ => ?_)
set_option maxHeartbeats 8000000 in
set_option maxRecDepth 100000 in
theorem head_grow.calls (k : Nat) (P0_ : Nat → Prop) (u9000_ : Value) (l0 : List (S47)) (a1 : ByteArray) (r1 : List (S47)) (r2 : Int) (w0 w : World) (hB : Below w0.heap.size w0 w) (ho0 : Kd.R k47 47 w w0.heap.size P0_ u9000_ l0) (h : head_grow.f k l0 a1 = some (r1, r2)) (hGU : GU w0 := by exact gUT) :
    Calls Tryz.prog 113 #[u9000_, .string a1] w fun e w' => ∃ v0_ : Value, e = .returned (.tuple #[v0_, .int .i64 r2]) ∧ Kd.R k47 47 w' w0.heap.size (fun k_ => (P0_ k_ ∨ w.heap.size ≤ k_)) v0_ r1 ∧ Below w0.heap.size w0 w' ∧ Kept w w' (fun k_ => P0_ k_) := by
  have hu47 := Tryz.underlying47
  have HO0 := Aside0.mk (show Kd.R k47 47 w w0.heap.size (fun k_ => (P0_ k_ ∨ w.heap.size ≤ k_)) u9000_ l0 from Kd.R_mono ho0 (fun k_ hk => (.inl hk)))
  have HK := Aside0.mk (Kept.refl w (fun k_ => P0_ k_))
  have HW0 := Aside0.mk hB.size
  have HB := Aside0.mk hB
  clear hB
  have H : (if (a1.size : Int) > 998 then (some (([] : List (S47)), 2)) else ((head_text.f k a1).bind fun t102 => (if t102 = true then ((head_white.f a1).bind fun t103 => (if t103 = true then (head_grow.j0 k l0 a1 ((l0.length : Int) == 0)) else (head_grow.j0 k l0 a1 false))) else (head_grow.j0 k l0 a1 true)))) = some (r1, r2) := h
  clear h
  by_cases c3 : (a1.size : Int) > 998
  · rw [if_pos c3] at H
    have c3b0 : decide (998 < (a1.size : Int)) = true := decide_eq_true c3
    have c3b1 : decide (998 < a1.size) = true := decide_eq_true (by omega)
    clear c3
    simp only [Option.some.injEq, Prod.mk.injEq] at H
    obtain ⟨rfl, rfl⟩ := H
    go_enter Tryz.func113, Tryz.ntmps113
    go_wp2
    go_ret2
    exact ⟨_, eqe, by first | exact Kd.R_nil _ _ _ _ _ | exact Kd.N_nil _ _ _ _ _ | exact Kd.V_nil _ _ _ _ _ | exact Kd.Q_nil _ _ _ _ _ | exact Kd.S_nil _ _ _ _ _, bw, by repeat (first | (with_reducible first | exact HK.out | apply Kept.alloc | apply Kept.drewN | apply Kept.drew) | exact HK.out)⟩
  · rw [if_neg c3] at H
    have c3b0 : decide (998 < (a1.size : Int)) = false := decide_eq_false c3
    have c3b1 : decide (998 < a1.size) = false := decide_eq_false (by omega)
    clear c3
    have HC4 := Aside0.mk H
    clear H
    go_enter Tryz.func113, Tryz.ntmps113
    go_upto_region 3 with (fail)
    go_cut [13] (fun v13 wc => ∃ (kq : Nat) (x13_3 : Bool), v13 = .bool x13_3 ∧ Aside0 (head_grow.j0 kq l0 a1 x13_3 = some (r1, r2)) ∧ Aside0 (kq ≤ k) ∧ Aside0 (Kd.R k47 47 wc w0.heap.size (fun k_ => (P0_ k_ ∨ w.heap.size ≤ k_)) u9000_ l0) ∧ Aside0 (Kept w wc (fun k_ => P0_ k_)) ∧ Aside0 (Below w0.heap.size w0 wc))
    case first =>
      have H := HC4.out
      clear HC4
      replace H := Option.bind_eq_some_iff.mp H
      obtain ⟨t102, A50, H⟩ := H
      replace H : (if t102 = true then ((head_white.f a1).bind fun t103 => (if t103 = true then (head_grow.j0 k l0 a1 ((l0.length : Int) == 0)) else (head_grow.j0 k l0 a1 false))) else (head_grow.j0 k l0 a1 true)) = some (r1, r2) := H
      have A5 := Aside0.mk A50
      clear A50
      by_cases c6 : t102 = true
      · subst c6
        have H1 : ((head_white.f a1).bind fun t103 => (if t103 = true then (head_grow.j0 k l0 a1 ((l0.length : Int) == 0)) else (head_grow.j0 k l0 a1 false))) = some (r1, r2) := by rw [if_pos rfl] at H; exact H
        clear H
        have H := H1
        clear H1
        replace H := Option.bind_eq_some_iff.mp H
        obtain ⟨t103, A70, H⟩ := H
        replace H : (if t103 = true then (head_grow.j0 k l0 a1 ((l0.length : Int) == 0)) else (head_grow.j0 k l0 a1 false)) = some (r1, r2) := H
        have A7 := Aside0.mk A70
        clear A70
        by_cases c8 : t103 = true
        · subst c8
          have H1 : (head_grow.j0 k l0 a1 ((l0.length : Int) == 0)) = some (r1, r2) := by rw [if_pos rfl] at H; exact H
          clear H
          have H := H1
          clear H1
          have H' := Aside0.mk H
          clear H
          go_wp2_with (first | ((with_reducible refine gate_callee (f := 74) rfl ?_); refine goesM (some 15) Tryz.func74 #[.string a1] ?_; (with_reducible refine (head_text.calls k a1 true _ A5.out).mono ?_); rintro e w' ⟨rfl, ⟨nd, rfl⟩⟩; refine ⟨_, rfl, ?_⟩) | (go_at_call 167; (with_reducible refine (head_white.calls a1 true _ A7.out).mono ?_); rintro e w' ⟨rfl, ⟨nd, rfl⟩⟩; obtain ⟨Ao9, co9, eo9⟩ := Kd.R_slice HO0.out; subst eo9))
          go_meet
          case rel => exact ⟨_, (((l0.length : Int) == 0)), eqv, H', ⟨by first | omega | exact Nat.le_refl _⟩, ⟨kr HO0⟩, ⟨by repeat (first | (with_reducible first | exact HK.out | apply Kept.alloc | apply Kept.drewN | apply Kept.drew) | exact HK.out)⟩, ⟨bw⟩⟩
        · replace c8 := Bool.eq_false_iff.mpr c8
          subst c8
          have H1 : (head_grow.j0 k l0 a1 false) = some (r1, r2) := by rw [if_neg (show ¬ (false = true) by decide)] at H; exact H
          clear H
          have H := H1
          clear H1
          have H' := Aside0.mk H
          clear H
          go_wp2_with (first | ((with_reducible refine gate_callee (f := 74) rfl ?_); refine goesM (some 15) Tryz.func74 #[.string a1] ?_; (with_reducible refine (head_text.calls k a1 true _ A5.out).mono ?_); rintro e w' ⟨rfl, ⟨nd, rfl⟩⟩; refine ⟨_, rfl, ?_⟩) | (go_at_call 167; (with_reducible refine (head_white.calls a1 false _ A7.out).mono ?_); rintro e w' ⟨rfl, ⟨nd, rfl⟩⟩))
          go_meet
          case rel => exact ⟨_, (false), eqv, H', ⟨by first | omega | exact Nat.le_refl _⟩, ⟨kr HO0⟩, ⟨by repeat (first | (with_reducible first | exact HK.out | apply Kept.alloc | apply Kept.drewN | apply Kept.drew) | exact HK.out)⟩, ⟨bw⟩⟩
      · replace c6 := Bool.eq_false_iff.mpr c6
        subst c6
        have H1 : (head_grow.j0 k l0 a1 true) = some (r1, r2) := by rw [if_neg (show ¬ (false = true) by decide)] at H; exact H
        clear H
        have H := H1
        clear H1
        have H' := Aside0.mk H
        clear H
        go_wp2_with (first | ((with_reducible refine gate_callee (f := 74) rfl ?_); refine goesM (some 15) Tryz.func74 #[.string a1] ?_; (with_reducible refine (head_text.calls k a1 false _ A5.out).mono ?_); rintro e w' ⟨rfl, ⟨nd, rfl⟩⟩; refine ⟨_, rfl, ?_⟩))
        go_meet
        case rel => exact ⟨_, (true), eqv, H', ⟨by first | omega | exact Nat.le_refl _⟩, ⟨kr HO0⟩, ⟨by repeat (first | (with_reducible first | exact HK.out | apply Kept.alloc | apply Kept.drewN | apply Kept.drew) | exact HK.out)⟩, ⟨bw⟩⟩
    case rest =>
      clear HC4
      try clear c1
      try clear p2
      try clear c3
      try clear c3b0
      try clear c3b1
      try clear c6
      try clear c7
      try clear c8
      obtain ⟨kq, x13_3, rfl, HA, HJ3, HO_0, HK, HB⟩ := hcut
      cases kq with
      | zero => exact absurd HA.out (by simp [head_grow.j0])
      | succ kj3 =>
        have H := HA.out
        clear HA
        simp only [head_grow.j0] at H
        by_cases c10 : x13_3 = true
        · subst c10
          have H1 : (some (([] : List (S47)), 150)) = some (r1, r2) := by rw [if_pos rfl] at H; exact H
          clear H
          have H := H1
          clear H1
          simp only [Option.some.injEq, Prod.mk.injEq] at H
          obtain ⟨rfl, rfl⟩ := H
          go_wp2
          go_ret2
          exact ⟨_, eqe, by first | exact Kd.R_nil _ _ _ _ _ | exact Kd.N_nil _ _ _ _ _ | exact Kd.V_nil _ _ _ _ _ | exact Kd.Q_nil _ _ _ _ _ | exact Kd.S_nil _ _ _ _ _, bw, by repeat (first | (with_reducible first | exact HK.out | apply Kept.alloc | apply Kept.drewN | apply Kept.drew) | exact HK.out)⟩
        · replace c10 := Bool.eq_false_iff.mpr c10
          subst c10
          have H1 : ((head_white.f a1).bind fun t104 => (if t104 = true then (if 0 ≤ (wrap64 ((l0.length : Int) - 1)) then (if (wrap64 ((l0.length : Int) - 1)) < (l0.length : Int) then (if ((rd_T47 l0 (wrap64 ((l0.length : Int) - 1))).f1).size + a1.size ≤ 9223372036854775807 then (some ((l0.set ((wrap64 ((l0.length : Int) - 1)) : Int).toNat (⟨(rd_T47 l0 (wrap64 ((l0.length : Int) - 1))).f0, ((rd_T47 l0 (wrap64 ((l0.length : Int) - 1))).f1) ++ a1⟩ : S47)), 0)) else (none)) else (none)) else (none)) else ((strings_Cut.f a1 (⟨#[58]⟩ : ByteArray)).bind fun bt107 => (if bt107.2.2 = true then ((head_named.f kj3 bt107.1).bind fun t110 => (head_grow.j1 kj3 l0 bt107.1 bt107.2.1 (!t110))) else (head_grow.j1 kj3 l0 bt107.1 bt107.2.1 true))))) = some (r1, r2) := by rw [if_neg (show ¬ (false = true) by decide)] at H; exact H
          clear H
          have H := H1
          clear H1
          replace H := Option.bind_eq_some_iff.mp H
          obtain ⟨t104, A110, H⟩ := H
          replace H : (if t104 = true then (if 0 ≤ (wrap64 ((l0.length : Int) - 1)) then (if (wrap64 ((l0.length : Int) - 1)) < (l0.length : Int) then (if ((rd_T47 l0 (wrap64 ((l0.length : Int) - 1))).f1).size + a1.size ≤ 9223372036854775807 then (some ((l0.set ((wrap64 ((l0.length : Int) - 1)) : Int).toNat (⟨(rd_T47 l0 (wrap64 ((l0.length : Int) - 1))).f0, ((rd_T47 l0 (wrap64 ((l0.length : Int) - 1))).f1) ++ a1⟩ : S47)), 0)) else (none)) else (none)) else (none)) else ((strings_Cut.f a1 (⟨#[58]⟩ : ByteArray)).bind fun bt107 => (if bt107.2.2 = true then ((head_named.f kj3 bt107.1).bind fun t110 => (head_grow.j1 kj3 l0 bt107.1 bt107.2.1 (!t110))) else (head_grow.j1 kj3 l0 bt107.1 bt107.2.1 true)))) = some (r1, r2) := H
          have A11 := Aside0.mk A110
          clear A110
          by_cases c12 : t104 = true
          · subst c12
            have H1 : (if 0 ≤ (wrap64 ((l0.length : Int) - 1)) then (if (wrap64 ((l0.length : Int) - 1)) < (l0.length : Int) then (if ((rd_T47 l0 (wrap64 ((l0.length : Int) - 1))).f1).size + a1.size ≤ 9223372036854775807 then (some ((l0.set ((wrap64 ((l0.length : Int) - 1)) : Int).toNat (⟨(rd_T47 l0 (wrap64 ((l0.length : Int) - 1))).f0, ((rd_T47 l0 (wrap64 ((l0.length : Int) - 1))).f1) ++ a1⟩ : S47)), 0)) else (none)) else (none)) else (none)) = some (r1, r2) := by rw [if_pos rfl] at H; exact H
            clear H
            have H := H1
            clear H1
            obtain ⟨ji13, hji13⟩ : ∃ j_ : Int, (wrap64 ((l0.length : Int) - 1)) = j_ := ⟨_, rfl⟩
            replace H : (if 0 ≤ (ji13) then (if (ji13) < (l0.length : Int) then (if ((rd_T47 l0 (ji13)).f1).size + a1.size ≤ 9223372036854775807 then (some ((l0.set ((ji13) : Int).toNat (⟨(rd_T47 l0 (ji13)).f0, ((rd_T47 l0 (ji13)).f1) ++ a1⟩ : S47)), 0)) else (none)) else (none)) else (none)) = some (r1, r2) := by first | (rw [hji13] at H; exact H) | (simp only [hji13] at H ⊢; exact H)
            (try rw [hji13] at A11)
            have hji13w : (IntKind.i64.wrap ((l0.length : Int) - 1)) = ji13 := (i64_w _).trans hji13
            by_cases c14 : 0 ≤ (ji13)
            · rw [if_pos c14] at H
              have c14b0 : decide (0 ≤ (ji13)) = true := decide_eq_true c14
              clear c14
              by_cases c15 : (ji13) < (l0.length : Int)
              · rw [if_pos c15] at H
                have c15b0 : decide ((ji13) < (l0.length : Int)) = true := decide_eq_true c15
                clear c15
                by_cases c16 : ((rd_T47 l0 (ji13)).f1).size + a1.size ≤ 9223372036854775807
                · rw [if_pos c16] at H
                  have c16b0 := eq_true c16
                  have c16b1 : decide (((rd_T47 l0 (ji13)).f1).size + a1.size ≤ 9223372036854775807) = true := decide_eq_true c16
                  try have c16b2 : (9223372036854775807 < ((rd_T47 l0 (ji13)).f1).size + a1.size) = False := eq_false (Nat.not_lt.2 c16)
                  obtain ⟨y106, hy106⟩ : ∃ y_ : List (S47), y_ = (l0.set ((ji13) : Int).toNat (⟨(rd_T47 l0 (ji13)).f0, ((rd_T47 l0 (ji13)).f1) ++ a1⟩ : S47)) := ⟨_, rfl⟩
                  replace H : (some (y106, 0)) = some (r1, r2) := by first | (rw [hy106]; with_reducible exact H) | (have H2_ := (Option.bind_some _ _).symm.trans H; rw [hy106]; with_reducible exact H2_) | (have H2_ := (Option.bind_some _ _).symm.trans H; with_reducible exact H2_) | with_reducible exact H | (rw [hy106]; exact H) | exact H
                  have Ny106 := Aside0.mk hy106
                  clear hy106
                  simp only [Option.some.injEq, Prod.mk.injEq] at H
                  obtain ⟨rfl, rfl⟩ := H
                  go_wp2_with (first | ((with_reducible refine gate_callee (f := 167) rfl ?_); refine goesM (some 28) Tryz.func167 #[.string a1] ?_; (with_reducible refine (head_white.calls a1 true _ A11.out).mono ?_); rintro e w' ⟨rfl, ⟨nd, rfl⟩⟩; refine ⟨_, rfl, ?_⟩; (try (rw [drewN_self wc]; generalize hq_ : World.drewN wc _ = wc; have n0_ : Aside0 (Kd.R k47 47 wc w0.heap.size (fun k_ => (P0_ k_ ∨ w.heap.size ≤ k_)) u9000_ l0) := ⟨by rw [← hq_]; exact (kr HO_0)⟩; have n1_ : Aside0 (Kept w wc (fun k_ => P0_ k_)) := ⟨by rw [← hq_]; exact (by repeat (first | (with_reducible first | exact HK.out | apply Kept.alloc | apply Kept.drewN | apply Kept.drew) | exact HK.out))⟩; have n2_ : Aside0 (Below w0.heap.size w0 wc) := ⟨by rw [← hq_]; exact bw⟩; clear HO_0 HK HB hq_; have HO_0 := n0_; have HK := n1_; have HB := n2_; clear n0_ n1_ n2_)); obtain ⟨Ao18, co18, eo18⟩ := Kd.R_slice HO_0.out; subst eo18; have p105 : 0 ≤ ((ji13) : Int) := of_decide_eq_true asm; have q105 : (ji13) < (l0.length : Int) := of_decide_eq_true asm; obtain ⟨ad105, e105, hx105_0, hx105_1⟩ := at_T47 (Kd.R_reads' HO_0.out).2.2 (ji13) p105 q105; cases e105; replace p105 := eq_true p105; replace q105 := eq_true q105; have p17 : 0 ≤ ((ji13) : Int) := of_decide_eq_true asm; have q17 : ((ji13) : Int) < ((l0.length : Int) : Int) := of_decide_eq_true asm; obtain ⟨go17, co17, eo17, gb17, gl17, cl17, HG17⟩ := Kd.R_form HO_0.out (by omega); (first | cases eo17 | (injection eo17 with ea_ en_ ec_; (first | subst ea_ | (injection ea_ with ea_; subst ea_)); subst ec_; clear en_)); have GB17 := Aside0.mk gb17; have GG17 := Aside0.mk HG17; clear gb17 gl17 HG17; have HMgo17 := Aside0.mk (show (P0_ go17 ∨ w.heap.size ≤ go17) from (HO_0.out.1 _ rfl)); (first | simp only [add_plain] at hx105_0 | skip); (first | simp only [add_plain] at hx105_1 | skip); obtain ⟨ce17, hcl17, hM17, hcc17, hfr17⟩ := Kd.R_elem HO_0.out z47 ((ji13) : Int) p17 q17; obtain rfl := k47_openM hM17; have hx17_0 : wc.cell? ⟨go17, ((ji13) : Int).toNat * 2, none⟩ = some (.string ((rd_T47 l0 (ji13)).f0)) := hcc17 0 _ rfl; have hx17_1 : wc.cell? ⟨go17, ((ji13) : Int).toNat * 2 + 1, none⟩ = some (.string ((rd_T47 l0 (ji13)).f1)) := hcc17 1 _ rfl; have hf17_0 : wc.frozen? ⟨go17, ((ji13) : Int).toNat * 2, none⟩ = false := hfr17 0; have hf17_1 : wc.frozen? ⟨go17, ((ji13) : Int).toNat * 2 + 1, none⟩ = false := hfr17 1; clear hcl17 hcc17 hfr17 hM17; replace p17 := eq_true p17; replace q17 := eq_true q17; have HX19 := Aside0.mk (show Kd.R k47 47 wc w0.heap.size (fun k_ => (P0_ k_ ∨ w.heap.size ≤ k_)) (.slice (some ⟨go17, 0, none⟩) l0.length co18) l0 from (kr HO_0)); obtain ⟨ce19, hcl19, hM19, hcc19, hfr19⟩ := Kd.R_elem HX19.out z47 ((ji13) : Int) (of_decide_eq_true asm) (by have h_ : ((ji13) : Int) < ((l0.length : Int) : Int) := of_decide_eq_true asm; first | exact h_ | (have e_ := (Kd.R_reads' HO_0.out).1; omega) | simpa using h_); obtain rfl := k47_openM hM19; have HP19 := Kd.R_seg HX19.out ((ji13) : Int) (of_decide_eq_true asm) (by have h_ : ((ji13) : Int) < ((l0.length : Int) : Int) := of_decide_eq_true asm; first | exact h_ | (have e_ := (Kd.R_reads' HO_0.out).1; omega) | simpa using h_) (seg := [.string (((rd_T47 l0 (ji13)).f1) ++ a1)]) (j := 1) hcl19 hcc19 (show 2 ≤ 2 from by decide) (x' := (⟨(rd_T47 l0 (ji13)).f0, ((rd_T47 l0 (ji13)).f1) ++ a1⟩ : S47)) (k47_mkM _ _ _ (⟨(rd_T47 l0 (ji13)).f0, ((rd_T47 l0 (ji13)).f1) ++ a1⟩ : S47) ) (fun _ hk => hk); have hx19_1 := hcc19 1 _ rfl; (try simp only [show (k47).sz = 2 from rfl, Nat.mul_one, Nat.add_zero] at hx19_1); have hf19_1 := hfr19 1; (try simp only [show (k47).sz = 2 from rfl, Nat.mul_one, Nat.add_zero] at hf19_1); clear hcl19 hcc19 hfr19 hM19) | ((with_reducible refine gate_store (t := 9) (p := 39) rfl ?_); refine store_event (t := 9) (p := 39) (v := ?vo_w20) (w1 := (wc.setCell ⟨go17, ((ji13) : Int).toNat * 2 + 1, none⟩ (.string (((rd_T47 l0 (ji13)).f1) ++ a1)))) ?hg ?ho ?hn ?hr ?_; (case ho => rfl); (case hg => rfl); (case hn => rfl); (case hr => first | (go_simp; done) | (go_simp; rfl)); intro w20 hw; have hg : wc.grownBy w20 (some go17) := (by rw [hw]; exact HP19.2); have hp_ : Kd.R k47 47 w20 w0.heap.size (fun k_ => (P0_ k_ ∨ w.heap.size ≤ k_)) (.slice (some ⟨go17, 0, none⟩) l0.length co18) y106 := (by rw [hw, Ny106.out]; exact HP19.1); clear HP19; have n0_ := Aside0.mk (hp_); have n1_ := Aside0.mk ((by rw [hw]; exact below_set (HB.out) GB17.out : Below w0.heap.size w0 w20)); have n2_ := Aside0.mk (Kept.of_grown (S := (fun k_ => P0_ k_)) hg (by repeat (first | (with_reducible first | exact HK.out | apply Kept.alloc | apply Kept.drewN | apply Kept.drew) | exact HK.out)) (fun k_ e_ => (HO_0.out.1 k_ e_))); clear HO_0; clear HB; clear HK; have HO_0 := n0_; have HB := n1_; have HK := n2_; clear n0_ n1_ n2_; clear hg hw hp_))
                  go_ret2
                  exact ⟨_, by first | rfl | (simp [errW_none, errW_some] <;> rfl) | (simp only [← hji13]; first | rfl | (simp [errW_none, errW_some] <;> rfl)) | (simp [*, errW_none, errW_some] <;> rfl), kr HO_0, bw, by repeat (first | (with_reducible first | exact HK.out | apply Kept.alloc | apply Kept.drewN | apply Kept.drew) | exact HK.out)⟩
                · rw [if_neg c16] at H
                  exact absurd H (by simp)
              · rw [if_neg c15] at H
                exact absurd H (by simp)
            · rw [if_neg c14] at H
              exact absurd H (by simp)
          · replace c12 := Bool.eq_false_iff.mpr c12
            subst c12
            have H1 : ((strings_Cut.f a1 (⟨#[58]⟩ : ByteArray)).bind fun bt107 => (if bt107.2.2 = true then ((head_named.f kj3 bt107.1).bind fun t110 => (head_grow.j1 kj3 l0 bt107.1 bt107.2.1 (!t110))) else (head_grow.j1 kj3 l0 bt107.1 bt107.2.1 true))) = some (r1, r2) := by rw [if_neg (show ¬ (false = true) by decide)] at H; exact H
            clear H
            have H := H1
            clear H1
            replace H := Option.bind_eq_some_iff.mp H
            obtain ⟨⟨t107, t108, t109⟩, A210, H⟩ := H
            replace H : (if t109 = true then ((head_named.f kj3 t107).bind fun t110 => (head_grow.j1 kj3 l0 t107 t108 (!t110))) else (head_grow.j1 kj3 l0 t107 t108 true)) = some (r1, r2) := H
            have A21 := Aside0.mk A210
            clear A210
            have HC22 := Aside0.mk H
            clear H
            go_upto_region 9 with (first | ((with_reducible refine gate_callee (f := 167) rfl ?_); refine goesM (some 28) Tryz.func167 #[.string a1] ?_; (with_reducible refine (head_white.calls a1 false _ A11.out).mono ?_); rintro e w' ⟨rfl, ⟨nd, rfl⟩⟩; refine ⟨_, rfl, ?_⟩) | ((with_reducible refine gate_callee (f := 65) rfl ?_); refine goesM (some 43) Tryz.func65 #[.string a1, .string (⟨#[58]⟩ : ByteArray)] ?_; (with_reducible refine (strings_Cut.calls a1 (⟨#[58]⟩ : ByteArray) t107 t108 t109 _ A21.out).mono ?_); rintro e w' ⟨rfl, ⟨nd, rfl⟩⟩; refine ⟨_, rfl, ?_⟩))
            (try simp only [Act.put, List.setIfInBounds_toArray, List.set_cons_zero, List.set_cons_succ])
            go_cut [47] (fun v47 wc => ∃ (kq : Nat) (x47_21 : Bool), v47 = .bool x47_21 ∧ Aside0 (head_grow.j1 kq l0 t107 t108 x47_21 = some (r1, r2)) ∧ Aside0 (kq ≤ kj3) ∧ Aside0 (Kd.R k47 47 wc w0.heap.size (fun k_ => (P0_ k_ ∨ w.heap.size ≤ k_)) u9000_ l0) ∧ Aside0 (Kept w wc (fun k_ => P0_ k_)) ∧ Aside0 (Below w0.heap.size w0 wc))
            case first =>
              have H := HC22.out
              clear HC22
              by_cases c23 : t109 = true
              · subst c23
                have H1 : ((head_named.f kj3 t107).bind fun t110 => (head_grow.j1 kj3 l0 t107 t108 (!t110))) = some (r1, r2) := by rw [if_pos rfl] at H; exact H
                clear H
                have H := H1
                clear H1
                replace H := Option.bind_eq_some_iff.mp H
                obtain ⟨t110, A240, H⟩ := H
                replace H : (head_grow.j1 kj3 l0 t107 t108 (!t110)) = some (r1, r2) := H
                have A24 := Aside0.mk A240
                clear A240
                have H' := Aside0.mk H
                clear H
                go_wp2_with (first | (go_at_call 73; (with_reducible refine (head_named.calls kj3 t107 t110 _ A24.out).mono ?_); rintro e w' ⟨rfl, ⟨nd, rfl⟩⟩))
                go_meet
                case rel => exact ⟨_, (!t110), eqv, H', ⟨by have := HJ3.out; first | omega | exact Nat.le_refl _⟩, ⟨kr HO_0⟩, ⟨by repeat (first | (with_reducible first | exact HK.out | apply Kept.alloc | apply Kept.drewN | apply Kept.drew) | exact HK.out)⟩, ⟨bw⟩⟩
              · replace c23 := Bool.eq_false_iff.mpr c23
                subst c23
                have H1 : (head_grow.j1 kj3 l0 t107 t108 true) = some (r1, r2) := by rw [if_neg (show ¬ (false = true) by decide)] at H; exact H
                clear H
                have H := H1
                clear H1
                have H' := Aside0.mk H
                clear H
                go_wp2
                go_meet
                case rel => exact ⟨_, (true), eqv, H', ⟨by have := HJ3.out; first | omega | exact Nat.le_refl _⟩, ⟨kr HO_0⟩, ⟨by repeat (first | (with_reducible first | exact HK.out | apply Kept.alloc | apply Kept.drewN | apply Kept.drew) | exact HK.out)⟩, ⟨bw⟩⟩
            case rest =>
              clear HC22
              try clear c1
              try clear p1
              try clear q1
              try clear hx1
              try clear c2
              try clear p2
              try clear c3
              try clear c3b0
              try clear c3b1
              try clear c6
              try clear p6
              try clear c7
              try clear c8
              try clear c10
              try clear p10
              try clear q10
              try clear hx10
              try clear c11
              try clear c12
              try clear c14
              try clear c14b0
              try clear c15
              try clear c15b0
              try clear c16
              try clear c16b0
              try clear c16b1
              try clear c16b2
              try clear c17
              try clear p17
              try clear q17
              try clear hx17
              try clear hf17
              try clear c19
              try clear hx19
              try clear hf19
              try clear c23
              try clear hx105_0
              try clear hx105_1
              try clear hx17_0
              try clear hx17_1
              try clear hx19_1
              try clear p105
              try clear p17
              try clear p2
              try clear q105
              try clear q17
              obtain ⟨kq, x47_21, rfl, HA, HJ21, HO_0, HK, HB⟩ := hcut
              cases kq with
              | zero => exact absurd HA.out (by simp [head_grow.j1])
              | succ kj21 =>
                have H := HA.out
                clear HA
                simp only [head_grow.j1] at H
                by_cases c25 : x47_21 = true
                · subst c25
                  have H1 : (some (([] : List (S47)), 150)) = some (r1, r2) := by rw [if_pos rfl] at H; exact H
                  clear H
                  have H := H1
                  clear H1
                  simp only [Option.some.injEq, Prod.mk.injEq] at H
                  obtain ⟨rfl, rfl⟩ := H
                  go_wp2
                  go_ret2
                  exact ⟨_, eqe, by first | exact Kd.R_nil _ _ _ _ _ | exact Kd.N_nil _ _ _ _ _ | exact Kd.V_nil _ _ _ _ _ | exact Kd.Q_nil _ _ _ _ _ | exact Kd.S_nil _ _ _ _ _, bw, by repeat (first | (with_reducible first | exact HK.out | apply Kept.alloc | apply Kept.drewN | apply Kept.drew) | exact HK.out)⟩
                · replace c25 := Bool.eq_false_iff.mpr c25
                  subst c25
                  have H1 : (if (l0.length : Int) = 100 then (some (([] : List (S47)), 8)) else (if l0.length < 4398046511104 then (some ((l0 ++ [(⟨t107, t108⟩ : S47)]), 0)) else (none))) = some (r1, r2) := by rw [if_neg (show ¬ (false = true) by decide)] at H; exact H
                  clear H
                  have H := H1
                  clear H1
                  by_cases c26 : (l0.length : Int) = 100
                  · rw [if_pos c26] at H
                    have c26b0 : ((l0.length : Int) == 100) = true := beq_iff_eq.mpr c26
                    have c26b1 : ((l0.length : Int) != 100) = false := bne_eq_false_iff_eq.mpr c26
                    clear c26
                    simp only [Option.some.injEq, Prod.mk.injEq] at H
                    obtain ⟨rfl, rfl⟩ := H
                    obtain ⟨Ao27, co27, eo27⟩ := Kd.R_slice HO_0.out
                    subst eo27
                    go_wp2
                    go_ret2
                    exact ⟨_, eqe, by first | exact Kd.R_nil _ _ _ _ _ | exact Kd.N_nil _ _ _ _ _ | exact Kd.V_nil _ _ _ _ _ | exact Kd.Q_nil _ _ _ _ _ | exact Kd.S_nil _ _ _ _ _, bw, by repeat (first | (with_reducible first | exact HK.out | apply Kept.alloc | apply Kept.drewN | apply Kept.drew) | exact HK.out)⟩
                  · rw [if_neg c26] at H
                    have c26b0 : ((l0.length : Int) == 100) = false := beq_eq_false_iff_ne.mpr c26
                    have c26b1 : ((l0.length : Int) != 100) = true := bne_iff_ne.mpr c26
                    by_cases c28 : l0.length < 4398046511104
                    · rw [if_pos c28] at H
                      have LMc28 := Aside0.mk c28
                      clear c28
                      obtain ⟨y111, hy111⟩ : ∃ y_ : List (S47), y_ = (l0 ++ [(⟨t107, t108⟩ : S47)]) := ⟨_, rfl⟩
                      replace H : (some (y111, 0)) = some (r1, r2) := by first | (rw [hy111]; with_reducible exact H) | (have H2_ := (Option.bind_some _ _).symm.trans H; rw [hy111]; with_reducible exact H2_) | (have H2_ := (Option.bind_some _ _).symm.trans H; with_reducible exact H2_) | with_reducible exact H | (rw [hy111]; exact H) | exact H
                      have Ny111 := Aside0.mk hy111
                      clear hy111
                      simp only [Option.some.injEq, Prod.mk.injEq] at H
                      obtain ⟨rfl, rfl⟩ := H
                      obtain ⟨Ao29, co29, eo29⟩ := Kd.R_slice HO_0.out
                      subst eo29
                      go_wp2_with (first | ((with_reducible refine gate_builtin (b := .append) (xs := #[.tmp 59, .tmp 63]) rfl ?_); (try (refine gate_guard (by rfl) ?_; dsimp only)); at_builtin; refine Kd.R_append k47 (w0 := w0) w0.heap.size rfl (.tmp 59) (.tmp 63) 23 47 (.agg #[(.string ⟨#[]⟩), (.string ⟨#[]⟩)]) 32 rfl Tryz.underlying23 info47 rfl (by decide) (by omega) (.slice Ao29 l0.length co29) l0 (⟨t107, t108⟩ : S47) [.string t107, .string t108] (fun k_ => (P0_ k_ ∨ w.heap.size ≤ k_)) (fun _ => False) rfl rfl ?aP (fun _ hk => hk.elim) ?aF ?aO ?aB ?aS ?aL ?_; (case aP => exact k47_mkM _ _ _ (⟨t107, t108⟩ : S47)); (case aB => exact bw); (case aF => exact (fun k_ hk => (.inr (Nat.le_trans (by first | exact HK.out.1 | exact (show Kept w _ (fun k_ => P0_ k_) from by repeat (first | (with_reducible first | exact HK.out | apply Kept.alloc | apply Kept.drewN | apply Kept.drew) | exact HK.out)).1) hk)))); (case aO => exact (kr HO_0)); (case aS => exact (below_size bw)); (case aL => have := LMc28.out; omega); intro v112 w30 ho hb hg hat; rw [← Ny111.out] at ho; have n0_ := Aside0.mk (hb); have n1_ := Aside0.mk (Kept.of_grown (S := (fun k_ => P0_ k_)) hg (by repeat (first | (with_reducible first | exact HK.out | apply Kept.alloc | apply Kept.drewN | apply Kept.drew) | exact HK.out)) (fun k_ e_ => (HO_0.out.1 k_ e_))); have n2_ := Aside0.mk (ho); clear HB; clear HK; clear HO_0; have HB := n0_; have HK := n1_; have HO113 := n2_; clear n0_ n1_ n2_; clear ho hb hg hat))
                      go_ret2
                      exact ⟨_, eqe, kr HO113, bw, by repeat (first | (with_reducible first | exact HK.out | apply Kept.alloc | apply Kept.drewN | apply Kept.drew) | exact HK.out)⟩
                    · rw [if_neg c28] at H
                      exact absurd H (by simp)
end Go.Proofs.YtjohcncekfcgpaaGreatDoor.P
end
section
namespace Go.Proofs.YtjohcncekfcgpaaGreatDoor.P
open Go.RowKit Go.Proofs.YtjohcncekfcgpaaGreatDoorW.PrintWords Go.Proofs.YtjohcncekfcgpaaGreatDoorW.PrintLast Go.Proofs.YtjohcncekfcgpaaGreatDoorW.PrintMore
attribute [local go_sem] max2_int min2_int max_two min_two max_three min_three max_four min_four
set_option linter.unusedVariables false
set_option linter.unusedSimpArgs false
mutual
def head_Parse.j1 : Nat → List (S47) → ByteArray → Option ((List (S47)) × ByteArray × Int)
  | 0, _, _ => none
  | k + 1, x2, x3 => head_Parse.l1 k x2 x3 (x2.length : Int) 0
def head_Parse.l1 : Nat → List (S47) → ByteArray → Int → Int → Option ((List (S47)) × ByteArray × Int)
  | 0, _, _, _, _ => none
  | k + 1, x2, x3, x33, x34 => if x34 < x33 then (if 0 ≤ x34 then (if x34 < (x2.length : Int) then ((head_trim.f ((rd_T47 x2 x34).f1)).bind fun t122 => (head_Parse.l1 k (x2.set (x34 : Int).toNat (⟨(rd_T47 x2 x34).f0, t122⟩ : S47)) x3 x33 (wrap64 (x34 + 1)))) else (none)) else (none)) else (some (x2, x3, 0))
def head_Parse.l0 : Nat → ByteArray → List (S47) → ByteArray → Option ((List (S47)) × ByteArray × Int)
  | 0, _, _, _ => none
  | k + 1, x0, x2, x3 => if x0.toList = ([] : List UInt8) then (head_Parse.j1 k x2 x3) else ((strings_Cut.f x0 (⟨#[13, 10]⟩ : ByteArray)).bind fun bt114 => (if bt114.2.2 = true then (if bt114.1.toList = ([] : List UInt8) then (head_Parse.j1 k x2 bt114.2.1) else ((head_grow.f k x2 bt114.1).bind fun bt117 => (if bt117.2 = 0 then (head_Parse.l0 k bt114.2.1 bt117.1 x3) else (some (([] : List (S47)), (⟨#[]⟩ : ByteArray), bt117.2))))) else (some (([] : List (S47)), (⟨#[]⟩ : ByteArray), 9))))
end
def head_Parse.f (k : Nat) (a0 : ByteArray) : Option ((List (S47)) × ByteArray × Int) := head_Parse.l0 k a0 ([] : List (S47)) (⟨#[]⟩ : ByteArray)
theorem head_Parse.mono_l : ∀ k, (∀ y0 y1, LeO (head_Parse.j1 k y0 y1) (head_Parse.j1 (k + 1) y0 y1)) ∧ (∀ y0 y1 y2 y3, LeO (head_Parse.l1 k y0 y1 y2 y3) (head_Parse.l1 (k + 1) y0 y1 y2 y3)) ∧ (∀ y0 y1 y2, LeO (head_Parse.l0 k y0 y1 y2) (head_Parse.l0 (k + 1) y0 y1 y2))
  | 0 => ⟨fun _ _ r h => by simp [head_Parse.j1] at h, fun _ _ _ _ r h => by simp [head_Parse.l1] at h, fun _ _ _ r h => by simp [head_Parse.l0] at h⟩
  | k + 1 => by
    obtain ⟨ih0, ih1, ih2⟩ := head_Parse.mono_l k
    refine ⟨?_, ?_, ?_⟩
    · intro y0 y1
      unfold head_Parse.j1
      repeat' first
      | (with_reducible exact ih0 _ _)
      | (with_reducible exact ih1 _ _ _ _)
      | (with_reducible exact ih2 _ _ _)
      | (with_reducible exact head_grow.mono _ _ _)
      | (with_reducible exact LeO.refl _)
      | (with_reducible exact LeO.none _)
      | (with_reducible refine LeO.ite ?_ ?_)
      | (with_reducible refine LeO.bind ?_ (fun _ => ?_))
      | exact ih0 _ _
      | exact ih1 _ _ _ _
      | exact ih2 _ _ _
      | exact head_grow.mono _ _ _
      | exact LeO.none _
      | refine LeO.ite ?_ ?_
      | refine LeO.bind ?_ (fun _ => ?_)
    · intro y0 y1 y2 y3
      unfold head_Parse.l1
      repeat' first
      | (with_reducible exact ih0 _ _)
      | (with_reducible exact ih1 _ _ _ _)
      | (with_reducible exact ih2 _ _ _)
      | (with_reducible exact head_grow.mono _ _ _)
      | (with_reducible exact LeO.refl _)
      | (with_reducible exact LeO.none _)
      | (with_reducible refine LeO.ite ?_ ?_)
      | (with_reducible refine LeO.bind ?_ (fun _ => ?_))
      | exact ih0 _ _
      | exact ih1 _ _ _ _
      | exact ih2 _ _ _
      | exact head_grow.mono _ _ _
      | exact LeO.none _
      | refine LeO.ite ?_ ?_
      | refine LeO.bind ?_ (fun _ => ?_)
    · intro y0 y1 y2
      unfold head_Parse.l0
      repeat' first
      | (with_reducible exact ih0 _ _)
      | (with_reducible exact ih1 _ _ _ _)
      | (with_reducible exact ih2 _ _ _)
      | (with_reducible exact head_grow.mono _ _ _)
      | (with_reducible exact LeO.refl _)
      | (with_reducible exact LeO.none _)
      | (with_reducible refine LeO.ite ?_ ?_)
      | (with_reducible refine LeO.bind ?_ (fun _ => ?_))
      | exact ih0 _ _
      | exact ih1 _ _ _ _
      | exact ih2 _ _ _
      | exact head_grow.mono _ _ _
      | exact LeO.none _
      | refine LeO.ite ?_ ?_
      | refine LeO.bind ?_ (fun _ => ?_)
theorem head_Parse.mono : ∀ a0 k, LeO (head_Parse.f k a0) (head_Parse.f (k + 1) a0) := by
  intro a0 k
  obtain ⟨ih0, ih1, ih2⟩ := head_Parse.mono_l k
  unfold head_Parse.f
  repeat' first
      | (with_reducible exact ih0 _ _)
      | (with_reducible exact ih1 _ _ _ _)
      | (with_reducible exact ih2 _ _ _)
      | (with_reducible exact head_grow.mono _ _ _)
      | (with_reducible exact LeO.refl _)
      | (with_reducible exact LeO.none _)
      | (with_reducible refine LeO.ite ?_ ?_)
      | (with_reducible refine LeO.bind ?_ (fun _ => ?_))
      | exact ih0 _ _
      | exact ih1 _ _ _ _
      | exact ih2 _ _ _
      | exact head_grow.mono _ _ _
      | exact LeO.none _
      | refine LeO.ite ?_ ?_
      | refine LeO.bind ?_ (fun _ => ?_)
set_option maxHeartbeats 8000000 in
set_option maxRecDepth 100000 in
theorem head_Parse.calls (k : Nat) (a0 : ByteArray) (r1 : List (S47)) (r2 : ByteArray) (r3 : Int) (w : World) (h : head_Parse.f k a0 = some (r1, r2, r3)) (hGU : GU w := by exact gUT) :
    Calls Tryz.prog 60 #[.string a0] w fun e w' => ∃ v0_ : Value, e = .returned (.tuple #[v0_, .string r2, .int .i64 r3]) ∧ Kd.R k47 47 w' w.heap.size (fun _ => True) v0_ r1 ∧ Below w.heap.size w w' := by
  have HB := Aside0.mk (Below.refl w.heap.size w)
  have H : (head_Parse.l0 k a0 ([] : List (S47)) (⟨#[]⟩ : ByteArray)) = some (r1, r2, r3) := h
  clear h
  have HC2 := Aside0.mk H
  clear H
  go_enter Tryz.func60, Tryz.ntmps60
  go_upto_block 0 with (fail)
  go_cut [2, 3] (fun v2 v3 wc => ∃ (kq : Nat) (x2_1 : List (S47)) (x3_1 : ByteArray), v3 = .string x3_1 ∧ Aside0 (head_Parse.j1 kq x2_1 x3_1 = some (r1, r2, r3)) ∧ Aside0 (kq ≤ k) ∧ Aside0 (Kd.R k47 47 wc w.heap.size (fun _ => True) v2 x2_1) ∧ Aside0 (Below w.heap.size w wc))
  case first =>
    have H := HC2.out
    clear HC2
    have H' := Aside0.mk H
    clear H
    go_wp2
    go_loopg [0, 2, 3] k (fun kq v0 v2 v3 w' => ∃ (x0_1 : ByteArray) (x2_1 : List (S47)) (x3_1 : ByteArray), v0 = .string x0_1 ∧ v3 = .string x3_1 ∧ Aside0 (head_Parse.l0 kq x0_1 x2_1 x3_1 = some (r1, r2, r3)) ∧ Aside0 (kq ≤ k) ∧ Aside0 (Kd.R k47 47 w' w.heap.size (fun _ => True) v2 x2_1) ∧ Aside0 (Below w.heap.size w w'))
    case atStart => exact ⟨(a0), (([] : List (S47))), ((⟨#[]⟩ : ByteArray)), eqv, eqv, H', ⟨Nat.le_refl _⟩, ⟨by first | exact Kd.R_nil _ _ _ _ _ | exact Kd.N_nil _ _ _ _ _ | exact Kd.V_nil _ _ _ _ _ | exact Kd.Q_nil _ _ _ _ _ | exact Kd.S_nil _ _ _ _ _⟩, ⟨bw⟩⟩
    case round =>
      clear H'
      try clear p2
      obtain ⟨x0_1, x2_1, x3_1, rfl, rfl, HA, HK1, HO_2, HB⟩ := hrel
      cases gk with
      | zero => exact absurd HA.out (by simp [head_Parse.l0])
      | succ k1 =>
        have H := HA.out
        clear HA
        simp only [head_Parse.l0] at H
        by_cases c3 : x0_1.toList = ([] : List UInt8)
        · rw [if_pos c3] at H
          have c3b0 : (x0_1.toList == ([] : List UInt8)) = true := beq_iff_eq.mpr c3
          have c3b1 : (x0_1.toList != ([] : List UInt8)) = false := bne_eq_false_iff_eq.mpr c3
          have c3bE : (x0_1.toList).isEmpty = true := List.isEmpty_iff.mpr c3
          clear c3
          (first | rw [c3b0] | (simp only [i64_w, i32_w]; rw [c3b0]) | rw [c3bE] | skip)
          have H' := Aside0.mk H
          clear H
          go_wp2
          go_meet
          case rel => exact ⟨_, (x2_1), (x3_1), eqv, H', ⟨by have := HK1.out; first | omega | exact Nat.le_refl _⟩, ⟨kr HO_2⟩, ⟨bw⟩⟩
        · rw [if_neg c3] at H
          have c3b0 : (x0_1.toList == ([] : List UInt8)) = false := beq_eq_false_iff_ne.mpr c3
          have c3b1 : (x0_1.toList != ([] : List UInt8)) = true := bne_iff_ne.mpr c3
          have c3bE : (x0_1.toList).isEmpty = false := List.isEmpty_eq_false_iff.mpr c3
          (first | rw [c3b0] | (simp only [i64_w, i32_w]; rw [c3b0]) | rw [c3bE] | skip)
          replace H := Option.bind_eq_some_iff.mp H
          obtain ⟨⟨t114, t115, t116⟩, A40, H⟩ := H
          replace H : (if t116 = true then (if t114.toList = ([] : List UInt8) then (head_Parse.j1 k1 x2_1 t115) else ((head_grow.f k1 x2_1 t114).bind fun bt117 => (if bt117.2 = 0 then (head_Parse.l0 k1 t115 bt117.1 x3_1) else (some (([] : List (S47)), (⟨#[]⟩ : ByteArray), bt117.2))))) else (some (([] : List (S47)), (⟨#[]⟩ : ByteArray), 9))) = some (r1, r2, r3) := H
          have A4 := Aside0.mk A40
          clear A40
          by_cases c5 : t116 = true
          · subst c5
            have H1 : (if t114.toList = ([] : List UInt8) then (head_Parse.j1 k1 x2_1 t115) else ((head_grow.f k1 x2_1 t114).bind fun bt117 => (if bt117.2 = 0 then (head_Parse.l0 k1 t115 bt117.1 x3_1) else (some (([] : List (S47)), (⟨#[]⟩ : ByteArray), bt117.2))))) = some (r1, r2, r3) := by rw [if_pos rfl] at H; exact H
            clear H
            have H := H1
            clear H1
            by_cases c6 : t114.toList = ([] : List UInt8)
            · rw [if_pos c6] at H
              have c6b0 : (t114.toList == ([] : List UInt8)) = true := beq_iff_eq.mpr c6
              have c6b1 : (t114.toList != ([] : List UInt8)) = false := bne_eq_false_iff_eq.mpr c6
              have c6bE : (t114.toList).isEmpty = true := List.isEmpty_iff.mpr c6
              clear c6
              have H' := Aside0.mk H
              clear H
              go_wp2_with (first | ((with_reducible refine gate_callee (f := 65) rfl ?_); refine goesM (some 13) Tryz.func65 #[.string x0_1, .string (⟨#[13, 10]⟩ : ByteArray)] ?_; (with_reducible refine (strings_Cut.calls x0_1 (⟨#[13, 10]⟩ : ByteArray) t114 t115 true _ A4.out).mono ?_); rintro e w' ⟨rfl, ⟨nd, rfl⟩⟩; refine ⟨_, rfl, ?_⟩))
              go_meet
              case rel => exact ⟨_, (x2_1), (t115), eqv, H', ⟨by have := HK1.out; first | omega | exact Nat.le_refl _⟩, ⟨kr HO_2⟩, ⟨bw⟩⟩
            · rw [if_neg c6] at H
              have c6b0 : (t114.toList == ([] : List UInt8)) = false := beq_eq_false_iff_ne.mpr c6
              have c6b1 : (t114.toList != ([] : List UInt8)) = true := bne_iff_ne.mpr c6
              have c6bE : (t114.toList).isEmpty = false := List.isEmpty_eq_false_iff.mpr c6
              replace H := Option.bind_eq_some_iff.mp H
              obtain ⟨⟨t117, t120⟩, A70, H⟩ := H
              replace H : (if t120 = 0 then (head_Parse.l0 k1 t115 t117 x3_1) else (some (([] : List (S47)), (⟨#[]⟩ : ByteArray), t120))) = some (r1, r2, r3) := H
              have A7 := Aside0.mk A70
              clear A70
              by_cases c8 : t120 = 0
              · rw [if_pos c8] at H
                have c8b0 : (t120 == 0) = true := beq_iff_eq.mpr c8
                have c8b1 : (t120 != 0) = false := bne_eq_false_iff_eq.mpr c8
                clear c8
                have H' := Aside0.mk H
                clear H
                go_wp2_with (first | ((with_reducible refine gate_callee (f := 65) rfl ?_); refine goesM (some 13) Tryz.func65 #[.string x0_1, .string (⟨#[13, 10]⟩ : ByteArray)] ?_; (with_reducible refine (strings_Cut.calls x0_1 (⟨#[13, 10]⟩ : ByteArray) t114 t115 true _ A4.out).mono ?_); rintro e w' ⟨rfl, ⟨nd, rfl⟩⟩; refine ⟨_, rfl, ?_⟩; obtain ⟨Ao9, co9, eo9⟩ := Kd.R_slice HO_2.out; subst eo9) | ((with_reducible refine gate_callee (f := 113) rfl ?_); refine goesM (some 26) Tryz.func113 #[.slice Ao9 x2_1.length co9, .string t114] ?_; (with_reducible refine (head_grow.calls k1 (fun k_ => some k_ = (.slice Ao9 x2_1.length co9 : Value).ownBlock) (.slice Ao9 x2_1.length co9) x2_1 t114 t117 t120 w _ ?side1 ?side2 A7.out).mono ?_); (case side1 => repeat (first | (with_reducible first | exact HB.out | apply below_alloc | apply pw_below_drewN | apply below_drew1) | exact HB.out)); (case side2 => exact Kd.R_tight rfl HO_2.out); rintro e w10 ⟨v118, rfl, ho0, hb, hkp⟩; refine ⟨_, rfl, ?_⟩; have n0_ := Aside0.mk (Kd.R_mono (ok' := fun k_ => True) ho0 (fun k_ hk_ => trivial)); have n1_ := Aside0.mk (hb); clear HB; clear HO_2; have HO119 := n0_; have HB := n1_; clear n0_ n1_; (try clear hb); (try clear hkp); (try clear ho0)))
                go_roundg k1
                case measure => have := HK1.out; omega
                case rel => exact ⟨(t115), (t117), (x3_1), eqv, eqv, H', ⟨by have := HK1.out; omega⟩, ⟨kr HO119⟩, ⟨bw⟩⟩
              · rw [if_neg c8] at H
                have c8b0 : (t120 == 0) = false := beq_eq_false_iff_ne.mpr c8
                have c8b1 : (t120 != 0) = true := bne_iff_ne.mpr c8
                simp only [Option.some.injEq, Prod.mk.injEq] at H
                obtain ⟨rfl, rfl, rfl⟩ := H
                go_wp2_with (first | ((with_reducible refine gate_callee (f := 65) rfl ?_); refine goesM (some 13) Tryz.func65 #[.string x0_1, .string (⟨#[13, 10]⟩ : ByteArray)] ?_; (with_reducible refine (strings_Cut.calls x0_1 (⟨#[13, 10]⟩ : ByteArray) t114 t115 true _ A4.out).mono ?_); rintro e w' ⟨rfl, ⟨nd, rfl⟩⟩; refine ⟨_, rfl, ?_⟩; obtain ⟨Ao11, co11, eo11⟩ := Kd.R_slice HO_2.out; subst eo11) | ((with_reducible refine gate_callee (f := 113) rfl ?_); refine goesM (some 26) Tryz.func113 #[.slice Ao11 x2_1.length co11, .string t114] ?_; (with_reducible refine (head_grow.calls k1 (fun k_ => some k_ = (.slice Ao11 x2_1.length co11 : Value).ownBlock) (.slice Ao11 x2_1.length co11) x2_1 t114 t117 t120 w _ ?side1 ?side2 A7.out).mono ?_); (case side1 => repeat (first | (with_reducible first | exact HB.out | apply below_alloc | apply pw_below_drewN | apply below_drew1) | exact HB.out)); (case side2 => exact Kd.R_tight rfl HO_2.out); rintro e w12 ⟨v118, rfl, ho0, hb, hkp⟩; refine ⟨_, rfl, ?_⟩; have n0_ := Aside0.mk (Kd.R_mono (ok' := fun k_ => True) ho0 (fun k_ hk_ => trivial)); have n1_ := Aside0.mk (hb); clear HB; clear HO_2; have HO119 := n0_; have HB := n1_; clear n0_ n1_; (try clear hb); (try clear hkp); (try clear ho0)))
                go_ret3
                exact ⟨_, eqe, by first | exact Kd.R_nil _ _ _ _ _ | exact Kd.N_nil _ _ _ _ _ | exact Kd.V_nil _ _ _ _ _ | exact Kd.Q_nil _ _ _ _ _ | exact Kd.S_nil _ _ _ _ _, bw⟩
          · replace c5 := Bool.eq_false_iff.mpr c5
            subst c5
            have H1 : (some (([] : List (S47)), (⟨#[]⟩ : ByteArray), 9)) = some (r1, r2, r3) := by rw [if_neg (show ¬ (false = true) by decide)] at H; exact H
            clear H
            have H := H1
            clear H1
            simp only [Option.some.injEq, Prod.mk.injEq] at H
            obtain ⟨rfl, rfl, rfl⟩ := H
            go_wp2_with (first | ((with_reducible refine gate_callee (f := 65) rfl ?_); refine goesM (some 13) Tryz.func65 #[.string x0_1, .string (⟨#[13, 10]⟩ : ByteArray)] ?_; (with_reducible refine (strings_Cut.calls x0_1 (⟨#[13, 10]⟩ : ByteArray) t114 t115 false _ A4.out).mono ?_); rintro e w' ⟨rfl, ⟨nd, rfl⟩⟩; refine ⟨_, rfl, ?_⟩))
            go_ret3
            exact ⟨_, eqe, by first | exact Kd.R_nil _ _ _ _ _ | exact Kd.N_nil _ _ _ _ _ | exact Kd.V_nil _ _ _ _ _ | exact Kd.Q_nil _ _ _ _ _ | exact Kd.S_nil _ _ _ _ _, bw⟩
  case rest =>
    clear HC2
    try clear c1
    try clear p2
    try clear c3
    try clear c3b0
    try clear c3b1
    try clear c5
    try clear c6
    try clear c6b0
    try clear c6b1
    try clear c8
    try clear c8b0
    try clear c8b1
    try clear c11
    try clear p2
    obtain ⟨kq, x2_1, x3_1, rfl, HA, HJ1, HO_2, HB⟩ := hcut
    cases kq with
    | zero => exact absurd HA.out (by simp [head_Parse.j1])
    | succ kj1 =>
      have H := HA.out
      clear HA
      simp only [head_Parse.j1] at H
      have H' := Aside0.mk H
      clear H
      obtain ⟨Ao13, co13, eo13⟩ := Kd.R_slice HO_2.out
      subst eo13
      go_wp2
      go_loopg [34] kj1 (fun kq v34 w' => ∃ (x2_2 : List (S47)) (x34_2 : Int), v34 = .int .i64 x34_2 ∧ Aside0 (head_Parse.l1 kq x2_2 x3_1 (x2_1.length : Int) x34_2 = some (r1, r2, r3)) ∧ Aside0 (kq ≤ kj1) ∧ Aside0 (Kd.R k47 47 w' w.heap.size (fun _ => True) (.slice Ao13 x2_1.length co13) x2_2) ∧ Aside0 (Below w.heap.size w w'))
      case atStart => exact ⟨(x2_1), (0), eqv, H', ⟨Nat.le_refl _⟩, ⟨kr HO_2⟩, ⟨bw⟩⟩
      case round =>
        clear H'
        try clear c1
        try clear p2
        try clear c3
        try clear c3b0
        try clear c3b1
        try clear c5
        try clear c6
        try clear c6b0
        try clear c6b1
        try clear c8
        try clear c8b0
        try clear c8b1
        try clear c11
        try clear p2
        obtain ⟨x2_2, x34_2, rfl, HA, HK2, HO_2, HB⟩ := hrel
        have hl2_2 := (Kd.R_reads' HO_2.out).1
        rw [hl2_2] at HO_2
        (try simp only [hl2_2])
        cases gk with
        | zero => exact absurd HA.out (by simp [head_Parse.l1])
        | succ k2 =>
          have H := HA.out
          clear HA
          simp only [head_Parse.l1] at H
          by_cases c14 : x34_2 < (x2_1.length : Int)
          · rw [if_pos c14] at H
            have c14b0 : decide (x34_2 < (x2_1.length : Int)) = true := decide_eq_true c14
            (try (have c14b0_hl2_2 := c14b0; rw [hl2_2] at c14b0_hl2_2))
            clear c14
            by_cases c15 : 0 ≤ x34_2
            · rw [if_pos c15] at H
              have c15b0 : decide (0 ≤ x34_2) = true := decide_eq_true c15
              clear c15
              by_cases c16 : x34_2 < (x2_2.length : Int)
              · rw [if_pos c16] at H
                have c16b0 : decide (x34_2 < (x2_2.length : Int)) = true := decide_eq_true c16
                (try (have c16b0_hl2_2 := c16b0; rw [hl2_2] at c16b0_hl2_2))
                clear c16
                replace H := Option.bind_eq_some_iff.mp H
                obtain ⟨t122, A170, H⟩ := H
                replace H : (head_Parse.l1 k2 (x2_2.set (x34_2 : Int).toNat (⟨(rd_T47 x2_2 x34_2).f0, t122⟩ : S47)) x3_1 (x2_1.length : Int) (wrap64 (x34_2 + 1))) = some (r1, r2, r3) := H
                have A17 := Aside0.mk A170
                clear A170
                obtain ⟨y123, hy123⟩ : ∃ y_ : List (S47), y_ = (x2_2.set (x34_2 : Int).toNat (⟨(rd_T47 x2_2 x34_2).f0, t122⟩ : S47)) := ⟨_, rfl⟩
                replace H : (head_Parse.l1 k2 y123 x3_1 (x2_1.length : Int) (wrap64 (x34_2 + 1))) = some (r1, r2, r3) := by first | (rw [hy123]; with_reducible exact H) | (have H2_ := (Option.bind_some _ _).symm.trans H; rw [hy123]; with_reducible exact H2_) | (have H2_ := (Option.bind_some _ _).symm.trans H; with_reducible exact H2_) | with_reducible exact H | (rw [hy123]; exact H) | exact H
                have Ny123 := Aside0.mk hy123
                clear hy123
                have H' := Aside0.mk H
                clear H
                have p121 : 0 ≤ (x34_2 : Int) := of_decide_eq_true asm
                have q121 : x34_2 < (x2_2.length : Int) := of_decide_eq_true asm
                obtain ⟨ad121, e121, hx121_0, hx121_1⟩ := at_T47 (Kd.R_reads' HO_2.out).2.2 x34_2 p121 q121
                cases e121
                replace p121 := eq_true p121
                replace q121 := eq_true q121
                go_wp2_with (first | ((with_reducible refine gate_callee (f := 75) rfl ?_); refine goesM (some 44) Tryz.func75 #[.string ((rd_T47 x2_2 x34_2).f1)] ?_; (with_reducible refine (head_trim.calls ((rd_T47 x2_2 x34_2).f1) t122 _ A17.out).mono ?_); rintro e w19 ⟨rfl, hb⟩; refine ⟨_, rfl, ?_⟩; have n0_ := Aside0.mk (Kd.R_below (kr HO_2) hb); have n1_ := Aside0.mk (below_step bw hb); clear HO_2; clear HB; have HO_2 := n0_; have HB := n1_; clear n0_ n1_; (try clear hb); (try clear hb2); (try clear hk); (try clear hi); have p18 : 0 ≤ (x34_2 : Int) := of_decide_eq_true asm; have q18 : (x34_2 : Int) < ((x2_2.length : Int) : Int) := of_decide_eq_true asm; obtain ⟨go18, co18, eo18, gb18, gl18, cl18, HG18⟩ := Kd.R_form HO_2.out (by omega); (first | cases eo18 | (injection eo18 with ea_ en_ ec_; (first | subst ea_ | (injection ea_ with ea_; subst ea_)); subst ec_; clear en_)); have GB18 := Aside0.mk gb18; have GG18 := Aside0.mk HG18; clear gb18 gl18 HG18; (first | simp only [add_plain] at hx121_0 | skip); (first | simp only [add_plain] at hx121_1 | skip); obtain ⟨ce18, hcl18, hM18, hcc18, hfr18⟩ := Kd.R_elem HO_2.out z47 (x34_2 : Int) p18 q18; obtain rfl := k47_openM hM18; have hx18_0 : w19.cell? ⟨go18, (x34_2 : Int).toNat * 2, none⟩ = some (.string ((rd_T47 x2_2 x34_2).f0)) := hcc18 0 _ rfl; have hx18_1 : w19.cell? ⟨go18, (x34_2 : Int).toNat * 2 + 1, none⟩ = some (.string ((rd_T47 x2_2 x34_2).f1)) := hcc18 1 _ rfl; have hf18_0 : w19.frozen? ⟨go18, (x34_2 : Int).toNat * 2, none⟩ = false := hfr18 0; have hf18_1 : w19.frozen? ⟨go18, (x34_2 : Int).toNat * 2 + 1, none⟩ = false := hfr18 1; clear hcl18 hcc18 hfr18 hM18; replace p18 := eq_true p18; replace q18 := eq_true q18; have HX20 := Aside0.mk (show Kd.R k47 47 w19 w.heap.size (fun _ => True) (.slice (some ⟨go18, 0, none⟩) x2_2.length co13) x2_2 from (kr HO_2)); obtain ⟨ce20, hcl20, hM20, hcc20, hfr20⟩ := Kd.R_elem HX20.out z47 (x34_2 : Int) (of_decide_eq_true asm) (by have h_ : (x34_2 : Int) < ((x2_2.length : Int) : Int) := of_decide_eq_true asm; first | exact h_ | (have e_ := (Kd.R_reads' HO_2.out).1; omega) | simpa using h_); obtain rfl := k47_openM hM20; have HP20 := Kd.R_seg HX20.out (x34_2 : Int) (of_decide_eq_true asm) (by have h_ : (x34_2 : Int) < ((x2_2.length : Int) : Int) := of_decide_eq_true asm; first | exact h_ | (have e_ := (Kd.R_reads' HO_2.out).1; omega) | simpa using h_) (seg := [.string t122]) (j := 1) hcl20 hcc20 (show 2 ≤ 2 from by decide) (x' := (⟨(rd_T47 x2_2 x34_2).f0, t122⟩ : S47)) (k47_mkM _ _ _ (⟨(rd_T47 x2_2 x34_2).f0, t122⟩ : S47) ) (fun _ hk => hk); have hx20_1 := hcc20 1 _ rfl; (try simp only [show (k47).sz = 2 from rfl, Nat.mul_one, Nat.add_zero] at hx20_1); have hf20_1 := hfr20 1; (try simp only [show (k47).sz = 2 from rfl, Nat.mul_one, Nat.add_zero] at hf20_1); clear hcl20 hcc20 hfr20 hM20) | ((with_reducible refine gate_store (t := 9) (p := 46) rfl ?_); refine store_event (t := 9) (p := 46) (v := ?vo_w21) (w1 := (w19.setCell ⟨go18, (x34_2 : Int).toNat * 2 + 1, none⟩ (.string t122))) ?hg ?ho ?hn ?hr ?_; (case ho => rfl); (case hg => rfl); (case hn => rfl); (case hr => first | (go_simp; done) | (go_simp; rfl)); intro w21 hw; have hg : w19.grownBy w21 (some go18) := (by rw [hw]; exact HP20.2); have hp_ : Kd.R k47 47 w21 w.heap.size (fun _ => True) (.slice (some ⟨go18, 0, none⟩) x2_2.length co13) y123 := (by rw [hw, Ny123.out]; exact HP20.1); clear HP20; have n0_ := Aside0.mk (hp_); have n1_ := Aside0.mk ((by rw [hw]; exact below_set (HB.out) GB18.out : Below w.heap.size w w21)); clear HO_2; clear HB; have HO_2 := n0_; have HB := n1_; clear n0_ n1_; clear hg hw hp_))
                (try simp only [← hl2_2])
                go_roundg k2
                case measure => have := HJ1.out; have := HK2.out; omega
                case rel => exact ⟨(y123), (wrap64 (x34_2 + 1)), eqv, H', ⟨by have := HJ1.out; have := HK2.out; omega⟩, ⟨by (try simp only [hl2_2]); (with_reducible repeat (first | apply Kd.R_alloc | apply Kd.R_drewN | apply Kd.R_drew)); exact HO_2.out⟩, ⟨bw⟩⟩
              · rw [if_neg c16] at H
                exact absurd H (by simp)
            · rw [if_neg c15] at H
              exact absurd H (by simp)
          · rw [if_neg c14] at H
            have c14b0 : decide (x34_2 < (x2_1.length : Int)) = false := decide_eq_false c14
            (try (have c14b0_hl2_2 := c14b0; rw [hl2_2] at c14b0_hl2_2))
            clear c14
            simp only [Option.some.injEq, Prod.mk.injEq] at H
            obtain ⟨rfl, rfl, rfl⟩ := H
            go_wp2
            go_ret3
            exact ⟨_, eqe, kr HO_2, bw⟩
end Go.Proofs.YtjohcncekfcgpaaGreatDoor.P
end
section
namespace Go.Proofs.YtjohcncekfcgpaaGreatDoor.P
open Go.RowKit Go.Proofs.YtjohcncekfcgpaaGreatDoorW.PrintWords Go.Proofs.YtjohcncekfcgpaaGreatDoorW.PrintLast Go.Proofs.YtjohcncekfcgpaaGreatDoorW.PrintMore
attribute [local go_sem] max2_int min2_int max_two min_two max_three min_three max_four min_four
set_option linter.unusedVariables false
set_option linter.unusedSimpArgs false
def lex_atomic.f (a0 : Int) : Option (Bool) := if a0 ≥ 97 then (if a0 ≤ 122 then (some true) else (if a0 ≥ 65 then (if a0 ≤ 90 then (some true) else (if a0 ≥ 48 then (if a0 ≤ 57 then (some true) else (if a0 > 127 then (some true) else ((strings_IndexByte.f (⟨#[33, 35, 36, 37, 38, 39, 42, 43, 45, 47, 61, 63, 94, 95, 96, 123, 124, 125, 126]⟩ : ByteArray) a0).bind fun t1060 => (some (decide (t1060 ≥ 0)))))) else (if a0 > 127 then (some true) else ((strings_IndexByte.f (⟨#[33, 35, 36, 37, 38, 39, 42, 43, 45, 47, 61, 63, 94, 95, 96, 123, 124, 125, 126]⟩ : ByteArray) a0).bind fun t1061 => (some (decide (t1061 ≥ 0))))))) else (if a0 ≥ 48 then (if a0 ≤ 57 then (some true) else (if a0 > 127 then (some true) else ((strings_IndexByte.f (⟨#[33, 35, 36, 37, 38, 39, 42, 43, 45, 47, 61, 63, 94, 95, 96, 123, 124, 125, 126]⟩ : ByteArray) a0).bind fun t1062 => (some (decide (t1062 ≥ 0)))))) else (if a0 > 127 then (some true) else ((strings_IndexByte.f (⟨#[33, 35, 36, 37, 38, 39, 42, 43, 45, 47, 61, 63, 94, 95, 96, 123, 124, 125, 126]⟩ : ByteArray) a0).bind fun t1063 => (some (decide (t1063 ≥ 0)))))))) else (if a0 ≥ 65 then (if a0 ≤ 90 then (some true) else (if a0 ≥ 48 then (if a0 ≤ 57 then (some true) else (if a0 > 127 then (some true) else ((strings_IndexByte.f (⟨#[33, 35, 36, 37, 38, 39, 42, 43, 45, 47, 61, 63, 94, 95, 96, 123, 124, 125, 126]⟩ : ByteArray) a0).bind fun t1064 => (some (decide (t1064 ≥ 0)))))) else (if a0 > 127 then (some true) else ((strings_IndexByte.f (⟨#[33, 35, 36, 37, 38, 39, 42, 43, 45, 47, 61, 63, 94, 95, 96, 123, 124, 125, 126]⟩ : ByteArray) a0).bind fun t1065 => (some (decide (t1065 ≥ 0))))))) else (if a0 ≥ 48 then (if a0 ≤ 57 then (some true) else (if a0 > 127 then (some true) else ((strings_IndexByte.f (⟨#[33, 35, 36, 37, 38, 39, 42, 43, 45, 47, 61, 63, 94, 95, 96, 123, 124, 125, 126]⟩ : ByteArray) a0).bind fun t1066 => (some (decide (t1066 ≥ 0)))))) else (if a0 > 127 then (some true) else ((strings_IndexByte.f (⟨#[33, 35, 36, 37, 38, 39, 42, 43, 45, 47, 61, 63, 94, 95, 96, 123, 124, 125, 126]⟩ : ByteArray) a0).bind fun t1067 => (some (decide (t1067 ≥ 0)))))))
set_option maxHeartbeats 8000000 in
set_option maxRecDepth 100000 in
theorem lex_atomic.calls (a0 : Int) (r : Bool) (w : World) (h : lex_atomic.f a0 = some r) :
    Calls Tryz.prog 247 #[.int .u8 a0] w fun e w' => e = .returned (.bool r) ∧ Drawn0 w w' := by
  have H : (if a0 ≥ 97 then (if a0 ≤ 122 then (some true) else (if a0 ≥ 65 then (if a0 ≤ 90 then (some true) else (if a0 ≥ 48 then (if a0 ≤ 57 then (some true) else (if a0 > 127 then (some true) else ((strings_IndexByte.f (⟨#[33, 35, 36, 37, 38, 39, 42, 43, 45, 47, 61, 63, 94, 95, 96, 123, 124, 125, 126]⟩ : ByteArray) a0).bind fun t1060 => (some (decide (t1060 ≥ 0)))))) else (if a0 > 127 then (some true) else ((strings_IndexByte.f (⟨#[33, 35, 36, 37, 38, 39, 42, 43, 45, 47, 61, 63, 94, 95, 96, 123, 124, 125, 126]⟩ : ByteArray) a0).bind fun t1061 => (some (decide (t1061 ≥ 0))))))) else (if a0 ≥ 48 then (if a0 ≤ 57 then (some true) else (if a0 > 127 then (some true) else ((strings_IndexByte.f (⟨#[33, 35, 36, 37, 38, 39, 42, 43, 45, 47, 61, 63, 94, 95, 96, 123, 124, 125, 126]⟩ : ByteArray) a0).bind fun t1062 => (some (decide (t1062 ≥ 0)))))) else (if a0 > 127 then (some true) else ((strings_IndexByte.f (⟨#[33, 35, 36, 37, 38, 39, 42, 43, 45, 47, 61, 63, 94, 95, 96, 123, 124, 125, 126]⟩ : ByteArray) a0).bind fun t1063 => (some (decide (t1063 ≥ 0)))))))) else (if a0 ≥ 65 then (if a0 ≤ 90 then (some true) else (if a0 ≥ 48 then (if a0 ≤ 57 then (some true) else (if a0 > 127 then (some true) else ((strings_IndexByte.f (⟨#[33, 35, 36, 37, 38, 39, 42, 43, 45, 47, 61, 63, 94, 95, 96, 123, 124, 125, 126]⟩ : ByteArray) a0).bind fun t1064 => (some (decide (t1064 ≥ 0)))))) else (if a0 > 127 then (some true) else ((strings_IndexByte.f (⟨#[33, 35, 36, 37, 38, 39, 42, 43, 45, 47, 61, 63, 94, 95, 96, 123, 124, 125, 126]⟩ : ByteArray) a0).bind fun t1065 => (some (decide (t1065 ≥ 0))))))) else (if a0 ≥ 48 then (if a0 ≤ 57 then (some true) else (if a0 > 127 then (some true) else ((strings_IndexByte.f (⟨#[33, 35, 36, 37, 38, 39, 42, 43, 45, 47, 61, 63, 94, 95, 96, 123, 124, 125, 126]⟩ : ByteArray) a0).bind fun t1066 => (some (decide (t1066 ≥ 0)))))) else (if a0 > 127 then (some true) else ((strings_IndexByte.f (⟨#[33, 35, 36, 37, 38, 39, 42, 43, 45, 47, 61, 63, 94, 95, 96, 123, 124, 125, 126]⟩ : ByteArray) a0).bind fun t1067 => (some (decide (t1067 ≥ 0)))))))) = some r := h
  clear h
  by_cases c2 : a0 ≥ 97
  · rw [if_pos c2] at H
    have c2b0 : decide (97 ≤ a0) = true := decide_eq_true c2
    clear c2
    by_cases c3 : a0 ≤ 122
    · rw [if_pos c3] at H
      have c3b0 : decide (a0 ≤ 122) = true := decide_eq_true c3
      clear c3
      obtain rfl := Option.some.inj H
      go_enter Tryz.func247, Tryz.ntmps247
      go_wp2
      go_ret
      exact ⟨eqv, dr⟩
    · rw [if_neg c3] at H
      have c3b0 : decide (a0 ≤ 122) = false := decide_eq_false c3
      clear c3
      by_cases c4 : a0 ≥ 65
      · rw [if_pos c4] at H
        have c4b0 : decide (65 ≤ a0) = true := decide_eq_true c4
        clear c4
        by_cases c5 : a0 ≤ 90
        · rw [if_pos c5] at H
          have c5b0 : decide (a0 ≤ 90) = true := decide_eq_true c5
          clear c5
          obtain rfl := Option.some.inj H
          go_enter Tryz.func247, Tryz.ntmps247
          go_wp2
          go_ret
          exact ⟨eqv, dr⟩
        · rw [if_neg c5] at H
          have c5b0 : decide (a0 ≤ 90) = false := decide_eq_false c5
          clear c5
          by_cases c6 : a0 ≥ 48
          · rw [if_pos c6] at H
            have c6b0 : decide (48 ≤ a0) = true := decide_eq_true c6
            clear c6
            by_cases c7 : a0 ≤ 57
            · rw [if_pos c7] at H
              have c7b0 : decide (a0 ≤ 57) = true := decide_eq_true c7
              clear c7
              obtain rfl := Option.some.inj H
              go_enter Tryz.func247, Tryz.ntmps247
              go_wp2
              go_ret
              exact ⟨eqv, dr⟩
            · rw [if_neg c7] at H
              have c7b0 : decide (a0 ≤ 57) = false := decide_eq_false c7
              clear c7
              by_cases c8 : a0 > 127
              · rw [if_pos c8] at H
                have c8b0 : decide (127 < a0) = true := decide_eq_true c8
                clear c8
                obtain rfl := Option.some.inj H
                go_enter Tryz.func247, Tryz.ntmps247
                go_wp2
                go_ret
                exact ⟨eqv, dr⟩
              · rw [if_neg c8] at H
                have c8b0 : decide (127 < a0) = false := decide_eq_false c8
                clear c8
                replace H := Option.bind_eq_some_iff.mp H
                obtain ⟨t1060, A90, H⟩ := H
                replace H : (some (decide (t1060 ≥ 0))) = some r := H
                have A9 := Aside0.mk A90
                clear A90
                obtain rfl := Option.some.inj H
                go_enter Tryz.func247, Tryz.ntmps247
                go_wp2_with (first | ((with_reducible refine gate_callee (f := 195) rfl ?_); refine goesM (some 31) Tryz.func195 #[.string (⟨#[33, 35, 36, 37, 38, 39, 42, 43, 45, 47, 61, 63, 94, 95, 96, 123, 124, 125, 126]⟩ : ByteArray), .int .u8 a0] ?_; (with_reducible refine (strings_IndexByte.calls (⟨#[33, 35, 36, 37, 38, 39, 42, 43, 45, 47, 61, 63, 94, 95, 96, 123, 124, 125, 126]⟩ : ByteArray) a0 t1060 _ A9.out).mono ?_); rintro e w' ⟨rfl, ⟨nd, rfl⟩⟩; refine ⟨_, rfl, ?_⟩))
                go_ret
                exact ⟨eqv, dr⟩
          · rw [if_neg c6] at H
            have c6b0 : decide (48 ≤ a0) = false := decide_eq_false c6
            clear c6
            by_cases c10 : a0 > 127
            · rw [if_pos c10] at H
              have c10b0 : decide (127 < a0) = true := decide_eq_true c10
              clear c10
              obtain rfl := Option.some.inj H
              go_enter Tryz.func247, Tryz.ntmps247
              go_wp2
              go_ret
              exact ⟨eqv, dr⟩
            · rw [if_neg c10] at H
              have c10b0 : decide (127 < a0) = false := decide_eq_false c10
              clear c10
              replace H := Option.bind_eq_some_iff.mp H
              obtain ⟨t1061, A110, H⟩ := H
              replace H : (some (decide (t1061 ≥ 0))) = some r := H
              have A11 := Aside0.mk A110
              clear A110
              obtain rfl := Option.some.inj H
              go_enter Tryz.func247, Tryz.ntmps247
              go_wp2_with (first | ((with_reducible refine gate_callee (f := 195) rfl ?_); refine goesM (some 31) Tryz.func195 #[.string (⟨#[33, 35, 36, 37, 38, 39, 42, 43, 45, 47, 61, 63, 94, 95, 96, 123, 124, 125, 126]⟩ : ByteArray), .int .u8 a0] ?_; (with_reducible refine (strings_IndexByte.calls (⟨#[33, 35, 36, 37, 38, 39, 42, 43, 45, 47, 61, 63, 94, 95, 96, 123, 124, 125, 126]⟩ : ByteArray) a0 t1061 _ A11.out).mono ?_); rintro e w' ⟨rfl, ⟨nd, rfl⟩⟩; refine ⟨_, rfl, ?_⟩))
              go_ret
              exact ⟨eqv, dr⟩
      · rw [if_neg c4] at H
        have c4b0 : decide (65 ≤ a0) = false := decide_eq_false c4
        clear c4
        by_cases c12 : a0 ≥ 48
        · rw [if_pos c12] at H
          have c12b0 : decide (48 ≤ a0) = true := decide_eq_true c12
          clear c12
          by_cases c13 : a0 ≤ 57
          · rw [if_pos c13] at H
            have c13b0 : decide (a0 ≤ 57) = true := decide_eq_true c13
            clear c13
            obtain rfl := Option.some.inj H
            go_enter Tryz.func247, Tryz.ntmps247
            go_wp2
            go_ret
            exact ⟨eqv, dr⟩
          · rw [if_neg c13] at H
            have c13b0 : decide (a0 ≤ 57) = false := decide_eq_false c13
            clear c13
            by_cases c14 : a0 > 127
            · rw [if_pos c14] at H
              have c14b0 : decide (127 < a0) = true := decide_eq_true c14
              clear c14
              obtain rfl := Option.some.inj H
              go_enter Tryz.func247, Tryz.ntmps247
              go_wp2
              go_ret
              exact ⟨eqv, dr⟩
            · rw [if_neg c14] at H
              have c14b0 : decide (127 < a0) = false := decide_eq_false c14
              clear c14
              replace H := Option.bind_eq_some_iff.mp H
              obtain ⟨t1062, A150, H⟩ := H
              replace H : (some (decide (t1062 ≥ 0))) = some r := H
              have A15 := Aside0.mk A150
              clear A150
              obtain rfl := Option.some.inj H
              go_enter Tryz.func247, Tryz.ntmps247
              go_wp2_with (first | ((with_reducible refine gate_callee (f := 195) rfl ?_); refine goesM (some 31) Tryz.func195 #[.string (⟨#[33, 35, 36, 37, 38, 39, 42, 43, 45, 47, 61, 63, 94, 95, 96, 123, 124, 125, 126]⟩ : ByteArray), .int .u8 a0] ?_; (with_reducible refine (strings_IndexByte.calls (⟨#[33, 35, 36, 37, 38, 39, 42, 43, 45, 47, 61, 63, 94, 95, 96, 123, 124, 125, 126]⟩ : ByteArray) a0 t1062 _ A15.out).mono ?_); rintro e w' ⟨rfl, ⟨nd, rfl⟩⟩; refine ⟨_, rfl, ?_⟩))
              go_ret
              exact ⟨eqv, dr⟩
        · rw [if_neg c12] at H
          have c12b0 : decide (48 ≤ a0) = false := decide_eq_false c12
          clear c12
          by_cases c16 : a0 > 127
          · rw [if_pos c16] at H
            have c16b0 : decide (127 < a0) = true := decide_eq_true c16
            clear c16
            obtain rfl := Option.some.inj H
            go_enter Tryz.func247, Tryz.ntmps247
            go_wp2
            go_ret
            exact ⟨eqv, dr⟩
          · rw [if_neg c16] at H
            have c16b0 : decide (127 < a0) = false := decide_eq_false c16
            clear c16
            replace H := Option.bind_eq_some_iff.mp H
            obtain ⟨t1063, A170, H⟩ := H
            replace H : (some (decide (t1063 ≥ 0))) = some r := H
            have A17 := Aside0.mk A170
            clear A170
            obtain rfl := Option.some.inj H
            go_enter Tryz.func247, Tryz.ntmps247
            go_wp2_with (first | ((with_reducible refine gate_callee (f := 195) rfl ?_); refine goesM (some 31) Tryz.func195 #[.string (⟨#[33, 35, 36, 37, 38, 39, 42, 43, 45, 47, 61, 63, 94, 95, 96, 123, 124, 125, 126]⟩ : ByteArray), .int .u8 a0] ?_; (with_reducible refine (strings_IndexByte.calls (⟨#[33, 35, 36, 37, 38, 39, 42, 43, 45, 47, 61, 63, 94, 95, 96, 123, 124, 125, 126]⟩ : ByteArray) a0 t1063 _ A17.out).mono ?_); rintro e w' ⟨rfl, ⟨nd, rfl⟩⟩; refine ⟨_, rfl, ?_⟩))
            go_ret
            exact ⟨eqv, dr⟩
  · rw [if_neg c2] at H
    have c2b0 : decide (97 ≤ a0) = false := decide_eq_false c2
    clear c2
    by_cases c18 : a0 ≥ 65
    · rw [if_pos c18] at H
      have c18b0 : decide (65 ≤ a0) = true := decide_eq_true c18
      clear c18
      by_cases c19 : a0 ≤ 90
      · rw [if_pos c19] at H
        have c19b0 : decide (a0 ≤ 90) = true := decide_eq_true c19
        clear c19
        obtain rfl := Option.some.inj H
        go_enter Tryz.func247, Tryz.ntmps247
        go_wp2
        go_ret
        exact ⟨eqv, dr⟩
      · rw [if_neg c19] at H
        have c19b0 : decide (a0 ≤ 90) = false := decide_eq_false c19
        clear c19
        by_cases c20 : a0 ≥ 48
        · rw [if_pos c20] at H
          have c20b0 : decide (48 ≤ a0) = true := decide_eq_true c20
          clear c20
          by_cases c21 : a0 ≤ 57
          · rw [if_pos c21] at H
            have c21b0 : decide (a0 ≤ 57) = true := decide_eq_true c21
            clear c21
            obtain rfl := Option.some.inj H
            go_enter Tryz.func247, Tryz.ntmps247
            go_wp2
            go_ret
            exact ⟨eqv, dr⟩
          · rw [if_neg c21] at H
            have c21b0 : decide (a0 ≤ 57) = false := decide_eq_false c21
            clear c21
            by_cases c22 : a0 > 127
            · rw [if_pos c22] at H
              have c22b0 : decide (127 < a0) = true := decide_eq_true c22
              clear c22
              obtain rfl := Option.some.inj H
              go_enter Tryz.func247, Tryz.ntmps247
              go_wp2
              go_ret
              exact ⟨eqv, dr⟩
            · rw [if_neg c22] at H
              have c22b0 : decide (127 < a0) = false := decide_eq_false c22
              clear c22
              replace H := Option.bind_eq_some_iff.mp H
              obtain ⟨t1064, A230, H⟩ := H
              replace H : (some (decide (t1064 ≥ 0))) = some r := H
              have A23 := Aside0.mk A230
              clear A230
              obtain rfl := Option.some.inj H
              go_enter Tryz.func247, Tryz.ntmps247
              go_wp2_with (first | ((with_reducible refine gate_callee (f := 195) rfl ?_); refine goesM (some 31) Tryz.func195 #[.string (⟨#[33, 35, 36, 37, 38, 39, 42, 43, 45, 47, 61, 63, 94, 95, 96, 123, 124, 125, 126]⟩ : ByteArray), .int .u8 a0] ?_; (with_reducible refine (strings_IndexByte.calls (⟨#[33, 35, 36, 37, 38, 39, 42, 43, 45, 47, 61, 63, 94, 95, 96, 123, 124, 125, 126]⟩ : ByteArray) a0 t1064 _ A23.out).mono ?_); rintro e w' ⟨rfl, ⟨nd, rfl⟩⟩; refine ⟨_, rfl, ?_⟩))
              go_ret
              exact ⟨eqv, dr⟩
        · rw [if_neg c20] at H
          have c20b0 : decide (48 ≤ a0) = false := decide_eq_false c20
          clear c20
          by_cases c24 : a0 > 127
          · rw [if_pos c24] at H
            have c24b0 : decide (127 < a0) = true := decide_eq_true c24
            clear c24
            obtain rfl := Option.some.inj H
            go_enter Tryz.func247, Tryz.ntmps247
            go_wp2
            go_ret
            exact ⟨eqv, dr⟩
          · rw [if_neg c24] at H
            have c24b0 : decide (127 < a0) = false := decide_eq_false c24
            clear c24
            replace H := Option.bind_eq_some_iff.mp H
            obtain ⟨t1065, A250, H⟩ := H
            replace H : (some (decide (t1065 ≥ 0))) = some r := H
            have A25 := Aside0.mk A250
            clear A250
            obtain rfl := Option.some.inj H
            go_enter Tryz.func247, Tryz.ntmps247
            go_wp2_with (first | ((with_reducible refine gate_callee (f := 195) rfl ?_); refine goesM (some 31) Tryz.func195 #[.string (⟨#[33, 35, 36, 37, 38, 39, 42, 43, 45, 47, 61, 63, 94, 95, 96, 123, 124, 125, 126]⟩ : ByteArray), .int .u8 a0] ?_; (with_reducible refine (strings_IndexByte.calls (⟨#[33, 35, 36, 37, 38, 39, 42, 43, 45, 47, 61, 63, 94, 95, 96, 123, 124, 125, 126]⟩ : ByteArray) a0 t1065 _ A25.out).mono ?_); rintro e w' ⟨rfl, ⟨nd, rfl⟩⟩; refine ⟨_, rfl, ?_⟩))
            go_ret
            exact ⟨eqv, dr⟩
    · rw [if_neg c18] at H
      have c18b0 : decide (65 ≤ a0) = false := decide_eq_false c18
      clear c18
      by_cases c26 : a0 ≥ 48
      · rw [if_pos c26] at H
        have c26b0 : decide (48 ≤ a0) = true := decide_eq_true c26
        clear c26
        by_cases c27 : a0 ≤ 57
        · rw [if_pos c27] at H
          have c27b0 : decide (a0 ≤ 57) = true := decide_eq_true c27
          clear c27
          obtain rfl := Option.some.inj H
          go_enter Tryz.func247, Tryz.ntmps247
          go_wp2
          go_ret
          exact ⟨eqv, dr⟩
        · rw [if_neg c27] at H
          have c27b0 : decide (a0 ≤ 57) = false := decide_eq_false c27
          clear c27
          by_cases c28 : a0 > 127
          · rw [if_pos c28] at H
            have c28b0 : decide (127 < a0) = true := decide_eq_true c28
            clear c28
            obtain rfl := Option.some.inj H
            go_enter Tryz.func247, Tryz.ntmps247
            go_wp2
            go_ret
            exact ⟨eqv, dr⟩
          · rw [if_neg c28] at H
            have c28b0 : decide (127 < a0) = false := decide_eq_false c28
            clear c28
            replace H := Option.bind_eq_some_iff.mp H
            obtain ⟨t1066, A290, H⟩ := H
            replace H : (some (decide (t1066 ≥ 0))) = some r := H
            have A29 := Aside0.mk A290
            clear A290
            obtain rfl := Option.some.inj H
            go_enter Tryz.func247, Tryz.ntmps247
            go_wp2_with (first | ((with_reducible refine gate_callee (f := 195) rfl ?_); refine goesM (some 31) Tryz.func195 #[.string (⟨#[33, 35, 36, 37, 38, 39, 42, 43, 45, 47, 61, 63, 94, 95, 96, 123, 124, 125, 126]⟩ : ByteArray), .int .u8 a0] ?_; (with_reducible refine (strings_IndexByte.calls (⟨#[33, 35, 36, 37, 38, 39, 42, 43, 45, 47, 61, 63, 94, 95, 96, 123, 124, 125, 126]⟩ : ByteArray) a0 t1066 _ A29.out).mono ?_); rintro e w' ⟨rfl, ⟨nd, rfl⟩⟩; refine ⟨_, rfl, ?_⟩))
            go_ret
            exact ⟨eqv, dr⟩
      · rw [if_neg c26] at H
        have c26b0 : decide (48 ≤ a0) = false := decide_eq_false c26
        clear c26
        by_cases c30 : a0 > 127
        · rw [if_pos c30] at H
          have c30b0 : decide (127 < a0) = true := decide_eq_true c30
          clear c30
          obtain rfl := Option.some.inj H
          go_enter Tryz.func247, Tryz.ntmps247
          go_wp2
          go_ret
          exact ⟨eqv, dr⟩
        · rw [if_neg c30] at H
          have c30b0 : decide (127 < a0) = false := decide_eq_false c30
          clear c30
          replace H := Option.bind_eq_some_iff.mp H
          obtain ⟨t1067, A310, H⟩ := H
          replace H : (some (decide (t1067 ≥ 0))) = some r := H
          have A31 := Aside0.mk A310
          clear A310
          obtain rfl := Option.some.inj H
          go_enter Tryz.func247, Tryz.ntmps247
          go_wp2_with (first | ((with_reducible refine gate_callee (f := 195) rfl ?_); refine goesM (some 31) Tryz.func195 #[.string (⟨#[33, 35, 36, 37, 38, 39, 42, 43, 45, 47, 61, 63, 94, 95, 96, 123, 124, 125, 126]⟩ : ByteArray), .int .u8 a0] ?_; (with_reducible refine (strings_IndexByte.calls (⟨#[33, 35, 36, 37, 38, 39, 42, 43, 45, 47, 61, 63, 94, 95, 96, 123, 124, 125, 126]⟩ : ByteArray) a0 t1067 _ A31.out).mono ?_); rintro e w' ⟨rfl, ⟨nd, rfl⟩⟩; refine ⟨_, rfl, ?_⟩))
          go_ret
          exact ⟨eqv, dr⟩
end Go.Proofs.YtjohcncekfcgpaaGreatDoor.P
end
section
namespace Go.Proofs.YtjohcncekfcgpaaGreatDoor.P
open Go.RowKit Go.Proofs.YtjohcncekfcgpaaGreatDoorW.PrintWords Go.Proofs.YtjohcncekfcgpaaGreatDoorW.PrintLast Go.Proofs.YtjohcncekfcgpaaGreatDoorW.PrintMore
attribute [local go_sem] max2_int min2_int max_two min_two max_three min_three max_four min_four
set_option linter.unusedVariables false
set_option linter.unusedSimpArgs false
def lex_IsAtom.l0 : Nat → ByteArray → Int → Int → Option (Bool)
  | 0, _, _, _ => none
  | k + 1, x0, x5, x6 => if x6 < x5 then (if 0 ≤ x6 then (if x6 < (x0.size : Int) then ((lex_atomic.f (bt x0 x6)).bind fun t1199 => (if t1199 = true then (lex_IsAtom.l0 k x0 x5 (wrap64 (x6 + 1))) else (some false))) else (none)) else (none)) else (some (x0.toList != ([] : List UInt8)))
def lex_IsAtom.f (k : Nat) (a0 : ByteArray) : Option (Bool) := lex_IsAtom.l0 k a0 (a0.size : Int) 0
theorem lex_IsAtom.mono_l : ∀ k, (∀ y0 y1 y2, LeO (lex_IsAtom.l0 k y0 y1 y2) (lex_IsAtom.l0 (k + 1) y0 y1 y2))
  | 0 => fun _ _ _ r h => by simp [lex_IsAtom.l0] at h
  | k + 1 => by
    have ih0 := lex_IsAtom.mono_l k
    · intro y0 y1 y2
      unfold lex_IsAtom.l0
      repeat' first
      | (with_reducible exact ih0 _ _ _)
      | (with_reducible exact LeO.refl _)
      | (with_reducible exact LeO.none _)
      | (with_reducible refine LeO.ite ?_ ?_)
      | (with_reducible refine LeO.bind ?_ (fun _ => ?_))
      | exact ih0 _ _ _
      | exact LeO.none _
      | refine LeO.ite ?_ ?_
      | refine LeO.bind ?_ (fun _ => ?_)
theorem lex_IsAtom.mono : ∀ a0 k, LeO (lex_IsAtom.f k a0) (lex_IsAtom.f (k + 1) a0) := by
  intro a0 k
  have ih0 := lex_IsAtom.mono_l k
  unfold lex_IsAtom.f
  repeat' first
      | (with_reducible exact ih0 _ _ _)
      | (with_reducible exact LeO.refl _)
      | (with_reducible exact LeO.none _)
      | (with_reducible refine LeO.ite ?_ ?_)
      | (with_reducible refine LeO.bind ?_ (fun _ => ?_))
      | exact ih0 _ _ _
      | exact LeO.none _
      | refine LeO.ite ?_ ?_
      | refine LeO.bind ?_ (fun _ => ?_)
set_option maxHeartbeats 8000000 in
set_option maxRecDepth 100000 in
theorem lex_IsAtom.calls (k : Nat) (a0 : ByteArray) (r : Bool) (w : World) (h : lex_IsAtom.f k a0 = some r) :
    Calls Tryz.prog 220 #[.string a0] w fun e w' => e = .returned (.bool r) ∧ Drawn0 w w' := by
  have H : (lex_IsAtom.l0 k a0 (a0.size : Int) 0) = some r := h
  clear h
  have H' := Aside0.mk H
  clear H
  go_enter Tryz.func220, Tryz.ntmps220
  go_wp2
  go_loopg [6] k (fun kq v6 w' => ∃ (x6_1 : Int), v6 = .int .i64 x6_1 ∧ Aside0 (lex_IsAtom.l0 kq a0 (a0.size : Int) x6_1 = some r) ∧ Aside0 (kq ≤ k) ∧ Drawn0 w w')
  case atStart => exact ⟨(0), eqv, H', ⟨Nat.le_refl _⟩, dr⟩
  case round =>
    clear H'
    obtain ⟨x6_1, rfl, HA, HK1, ⟨m1, rfl⟩⟩ := hrel
    cases gk with
    | zero => exact absurd HA.out (by simp [lex_IsAtom.l0])
    | succ k1 =>
      have H := HA.out
      clear HA
      simp only [lex_IsAtom.l0] at H
      by_cases c2 : x6_1 < (a0.size : Int)
      · rw [if_pos c2] at H
        have c2b0 : decide (x6_1 < (a0.size : Int)) = true := decide_eq_true c2
        clear c2
        by_cases c3 : 0 ≤ x6_1
        · rw [if_pos c3] at H
          have c3b0 : decide (0 ≤ x6_1) = true := decide_eq_true c3
          clear c3
          by_cases c4 : x6_1 < (a0.size : Int)
          · rw [if_pos c4] at H
            have c4b0 : decide (x6_1 < (a0.size : Int)) = true := decide_eq_true c4
            clear c4
            replace H := Option.bind_eq_some_iff.mp H
            obtain ⟨t1199, A60, H⟩ := H
            replace H : (if t1199 = true then (lex_IsAtom.l0 k1 a0 (a0.size : Int) (wrap64 (x6_1 + 1))) else (some false)) = some r := H
            have A6 := Aside0.mk A60
            clear A60
            by_cases c7 : t1199 = true
            · subst c7
              have H1 : (lex_IsAtom.l0 k1 a0 (a0.size : Int) (wrap64 (x6_1 + 1))) = some r := by rw [if_pos rfl] at H; exact H
              clear H
              have H := H1
              clear H1
              have H' := Aside0.mk H
              clear H
              have p5 : 0 ≤ (x6_1 : Int) := of_decide_eq_true asm
              have q5 : x6_1 < (a0.size : Int) := of_decide_eq_true asm
              have hx5 := bt_at a0 x6_1
              replace p5 := eq_true p5
              replace q5 := eq_true q5
              go_wp2_with (first | ((with_reducible refine gate_callee (f := 247) rfl ?_); refine goesM (some 12) Tryz.func247 #[.int .u8 (bt a0 x6_1)] ?_; (with_reducible refine (lex_atomic.calls (bt a0 x6_1) true _ A6.out).mono ?_); rintro e w' ⟨rfl, ⟨nd, rfl⟩⟩; refine ⟨_, rfl, ?_⟩))
              go_roundg k1
              case measure => have := HK1.out; omega
              case rel => exact ⟨(wrap64 (x6_1 + 1)), eqv, H', ⟨by have := HK1.out; omega⟩, dr⟩
            · replace c7 := Bool.eq_false_iff.mpr c7
              subst c7
              have H1 : (some false) = some r := by rw [if_neg (show ¬ (false = true) by decide)] at H; exact H
              clear H
              have H := H1
              clear H1
              obtain rfl := Option.some.inj H
              have p5 : 0 ≤ (x6_1 : Int) := of_decide_eq_true asm
              have q5 : x6_1 < (a0.size : Int) := of_decide_eq_true asm
              have hx5 := bt_at a0 x6_1
              replace p5 := eq_true p5
              replace q5 := eq_true q5
              go_wp2_with (first | ((with_reducible refine gate_callee (f := 247) rfl ?_); refine goesM (some 12) Tryz.func247 #[.int .u8 (bt a0 x6_1)] ?_; (with_reducible refine (lex_atomic.calls (bt a0 x6_1) false _ A6.out).mono ?_); rintro e w' ⟨rfl, ⟨nd, rfl⟩⟩; refine ⟨_, rfl, ?_⟩))
              go_ret
              exact ⟨eqv, dr⟩
          · rw [if_neg c4] at H
            exact absurd H (by simp)
        · rw [if_neg c3] at H
          exact absurd H (by simp)
      · rw [if_neg c2] at H
        have c2b0 : decide (x6_1 < (a0.size : Int)) = false := decide_eq_false c2
        clear c2
        obtain rfl := Option.some.inj H
        go_wp2
        go_ret
        exact ⟨eqv, dr⟩
end Go.Proofs.YtjohcncekfcgpaaGreatDoor.P
end
section
namespace Go.Proofs.YtjohcncekfcgpaaGreatDoor.P
open Go.RowKit Go.Proofs.YtjohcncekfcgpaaGreatDoorW.PrintWords Go.Proofs.YtjohcncekfcgpaaGreatDoorW.PrintLast Go.Proofs.YtjohcncekfcgpaaGreatDoorW.PrintMore
attribute [local go_sem] max2_int min2_int max_two min_two max_three min_three max_four min_four
set_option linter.unusedVariables false
set_option linter.unusedSimpArgs false
def lex_sign.f (a0 : Int) : Option (Bool) := (strings_IndexByte.f (⟨#[60, 62, 58, 59, 64, 44, 46]⟩ : ByteArray) a0).bind fun t1083 => (some (decide (t1083 ≥ 0)))
set_option maxHeartbeats 8000000 in
set_option maxRecDepth 100000 in
theorem lex_sign.calls (a0 : Int) (r : Bool) (w : World) (h : lex_sign.f a0 = some r) :
    Calls Tryz.prog 252 #[.int .u8 a0] w fun e w' => e = .returned (.bool r) ∧ Drawn0 w w' := by
  have H : ((strings_IndexByte.f (⟨#[60, 62, 58, 59, 64, 44, 46]⟩ : ByteArray) a0).bind fun t1083 => (some (decide (t1083 ≥ 0)))) = some r := h
  clear h
  replace H := Option.bind_eq_some_iff.mp H
  obtain ⟨t1083, A20, H⟩ := H
  replace H : (some (decide (t1083 ≥ 0))) = some r := H
  have A2 := Aside0.mk A20
  clear A20
  obtain rfl := Option.some.inj H
  go_enter Tryz.func252, Tryz.ntmps252
  go_wp2_with (first | ((with_reducible refine gate_callee (f := 195) rfl ?_); refine goesM (some 4) Tryz.func195 #[.string (⟨#[60, 62, 58, 59, 64, 44, 46]⟩ : ByteArray), .int .u8 a0] ?_; (with_reducible refine (strings_IndexByte.calls (⟨#[60, 62, 58, 59, 64, 44, 46]⟩ : ByteArray) a0 t1083 _ A2.out).mono ?_); rintro e w' ⟨rfl, ⟨nd, rfl⟩⟩; refine ⟨_, rfl, ?_⟩))
  go_ret
  exact ⟨eqv, dr⟩
end Go.Proofs.YtjohcncekfcgpaaGreatDoor.P
end
section
namespace Go.Proofs.YtjohcncekfcgpaaGreatDoor.P
open Go.RowKit Go.Proofs.YtjohcncekfcgpaaGreatDoorW.PrintWords Go.Proofs.YtjohcncekfcgpaaGreatDoorW.PrintLast Go.Proofs.YtjohcncekfcgpaaGreatDoorW.PrintMore
attribute [local go_sem] max2_int min2_int max_two min_two max_three min_three max_four min_four
set_option linter.unusedVariables false
set_option linter.unusedSimpArgs false
def lex_text.f (a0 : Int) : Option (Bool) := if a0 = 9 then (some true) else (if a0 ≥ 32 then (some (a0 != 127)) else (some false))
set_option maxHeartbeats 8000000 in
set_option maxRecDepth 100000 in
theorem lex_text.calls (a0 : Int) (r : Bool) (w : World) (h : lex_text.f a0 = some r) :
    Calls Tryz.prog 221 #[.int .u8 a0] w fun e w' => e = .returned (.bool r) ∧ Drawn0 w w' := by
  have H : (if a0 = 9 then (some true) else (if a0 ≥ 32 then (some (a0 != 127)) else (some false))) = some r := h
  clear h
  by_cases c2 : a0 = 9
  · rw [if_pos c2] at H
    have c2b0 : (a0 == 9) = true := beq_iff_eq.mpr c2
    have c2b1 : (a0 != 9) = false := bne_eq_false_iff_eq.mpr c2
    clear c2
    obtain rfl := Option.some.inj H
    go_enter Tryz.func221, Tryz.ntmps221
    go_wp2
    go_ret
    exact ⟨eqv, dr⟩
  · rw [if_neg c2] at H
    have c2b0 : (a0 == 9) = false := beq_eq_false_iff_ne.mpr c2
    have c2b1 : (a0 != 9) = true := bne_iff_ne.mpr c2
    by_cases c3 : a0 ≥ 32
    · rw [if_pos c3] at H
      have c3b0 : decide (32 ≤ a0) = true := decide_eq_true c3
      clear c3
      obtain rfl := Option.some.inj H
      go_enter Tryz.func221, Tryz.ntmps221
      go_wp2
      go_ret
      exact ⟨eqv, dr⟩
    · rw [if_neg c3] at H
      have c3b0 : decide (32 ≤ a0) = false := decide_eq_false c3
      clear c3
      obtain rfl := Option.some.inj H
      go_enter Tryz.func221, Tryz.ntmps221
      go_wp2
      go_ret
      exact ⟨eqv, dr⟩
end Go.Proofs.YtjohcncekfcgpaaGreatDoor.P
end
section
namespace Go.Proofs.YtjohcncekfcgpaaGreatDoor.P
open Go.RowKit Go.Proofs.YtjohcncekfcgpaaGreatDoorW.PrintWords Go.Proofs.YtjohcncekfcgpaaGreatDoorW.PrintLast Go.Proofs.YtjohcncekfcgpaaGreatDoorW.PrintMore
attribute [local go_sem] max2_int min2_int max_two min_two max_three min_three max_four min_four
set_option linter.unusedVariables false
set_option linter.unusedSimpArgs false
mutual
def lex_Quote.l0 : Nat → ByteArray → List Int → Int → Int → Option (ByteArray)
  | 0, _, _, _, _ => none
  | k + 1, x0, x3, x8, x9 => if x9 < x8 then (if 0 ≤ x9 then (if x9 < (x0.size : Int) then (if (bt x0 x9) = 34 then (lex_Quote.j1 k x0 x3 (bt x0 x9) x8 x9 true) else (lex_Quote.j1 k x0 x3 (bt x0 x9) x8 x9 ((bt x0 x9) == 92))) else (none)) else (none)) else (if x3.length < 140737488355328 then (some (strOfNums (x3 ++ [34]))) else (none))
def lex_Quote.j1 : Nat → ByteArray → List Int → Int → Int → Int → Bool → Option (ByteArray)
  | 0, _, _, _, _, _, _ => none
  | k + 1, x0, x3, x5, x8, x9, x15 => if x15 = true then (if x3.length < 140737488355328 then ((some (x3 ++ [92] : List Int)).bind fun y295 => (if y295.length < 140737488355328 then (lex_Quote.l0 k x0 (y295 ++ [x5]) x8 (wrap64 (x9 + 1))) else (none))) else (none)) else ((lex_text.f x5).bind fun t301 => (if t301 = true then (if x3.length < 140737488355328 then (lex_Quote.l0 k x0 (x3 ++ [x5]) x8 (wrap64 (x9 + 1))) else (none)) else (if x3.length < 140737488355328 then (lex_Quote.l0 k x0 (x3 ++ [32]) x8 (wrap64 (x9 + 1))) else (none))))
end
def lex_Quote.f (k : Nat) (a0 : ByteArray) : Option (ByteArray) := lex_Quote.l0 k a0 (([34] : List Int)) (a0.size : Int) 0
theorem lex_Quote.mono_l : ∀ k, (∀ y0 y1 y2 y3, LeO (lex_Quote.l0 k y0 y1 y2 y3) (lex_Quote.l0 (k + 1) y0 y1 y2 y3)) ∧ (∀ y0 y1 y2 y3 y4 y5, LeO (lex_Quote.j1 k y0 y1 y2 y3 y4 y5) (lex_Quote.j1 (k + 1) y0 y1 y2 y3 y4 y5))
  | 0 => ⟨fun _ _ _ _ r h => by simp [lex_Quote.l0] at h, fun _ _ _ _ _ _ r h => by simp [lex_Quote.j1] at h⟩
  | k + 1 => by
    obtain ⟨ih0, ih1⟩ := lex_Quote.mono_l k
    refine ⟨?_, ?_⟩
    · intro y0 y1 y2 y3
      unfold lex_Quote.l0
      repeat' first
      | (with_reducible exact ih0 _ _ _ _)
      | (with_reducible exact ih1 _ _ _ _ _ _)
      | (with_reducible exact LeO.refl _)
      | (with_reducible exact LeO.none _)
      | (with_reducible refine LeO.ite ?_ ?_)
      | (with_reducible refine LeO.bind ?_ (fun _ => ?_))
      | exact ih0 _ _ _ _
      | exact ih1 _ _ _ _ _ _
      | exact LeO.none _
      | refine LeO.ite ?_ ?_
      | refine LeO.bind ?_ (fun _ => ?_)
    · intro y0 y1 y2 y3 y4 y5
      unfold lex_Quote.j1
      repeat' first
      | (with_reducible exact ih0 _ _ _ _)
      | (with_reducible exact ih1 _ _ _ _ _ _)
      | (with_reducible exact LeO.refl _)
      | (with_reducible exact LeO.none _)
      | (with_reducible refine LeO.ite ?_ ?_)
      | (with_reducible refine LeO.bind ?_ (fun _ => ?_))
      | exact ih0 _ _ _ _
      | exact ih1 _ _ _ _ _ _
      | exact LeO.none _
      | refine LeO.ite ?_ ?_
      | refine LeO.bind ?_ (fun _ => ?_)
theorem lex_Quote.mono : ∀ a0 k, LeO (lex_Quote.f k a0) (lex_Quote.f (k + 1) a0) := by
  intro a0 k
  obtain ⟨ih0, ih1⟩ := lex_Quote.mono_l k
  unfold lex_Quote.f
  repeat' first
      | (with_reducible exact ih0 _ _ _ _)
      | (with_reducible exact ih1 _ _ _ _ _ _)
      | (with_reducible exact LeO.refl _)
      | (with_reducible exact LeO.none _)
      | (with_reducible refine LeO.ite ?_ ?_)
      | (with_reducible refine LeO.bind ?_ (fun _ => ?_))
      | exact ih0 _ _ _ _
      | exact ih1 _ _ _ _ _ _
      | exact LeO.none _
      | refine LeO.ite ?_ ?_
      | refine LeO.bind ?_ (fun _ => ?_)
set_option maxHeartbeats 8000000 in
set_option maxRecDepth 100000 in
theorem lex_Quote.calls (k : Nat) (a0 : ByteArray) (r : ByteArray) (w : World) (h : lex_Quote.f k a0 = some r) :
    Calls Tryz.prog 180 #[.string a0] w fun e w' => e = .returned (.string r) ∧ Below w.heap.size w w' := by
  have HB := Aside0.mk (Below.refl w.heap.size w)
  have H : (lex_Quote.l0 k a0 (([34] : List Int)) (a0.size : Int) 0) = some r := h
  clear h
  obtain ⟨y289, hy289⟩ : ∃ y_ : List Int, y_ = (([34] : List Int)) := ⟨_, rfl⟩
  replace H : (lex_Quote.l0 k a0 y289 (a0.size : Int) 0) = some r := by first | (rw [hy289]; with_reducible exact H) | (have H2_ := (Option.bind_some _ _).symm.trans H; rw [hy289]; with_reducible exact H2_) | (have H2_ := (Option.bind_some _ _).symm.trans H; with_reducible exact H2_) | with_reducible exact H | (rw [hy289]; exact H) | exact H
  have Ny289 := Aside0.mk hy289
  clear hy289
  have H' := Aside0.mk H
  clear H
  go_enter Tryz.func180, Tryz.ntmps180
  go_wp2_with (first | ((with_reducible refine gate_dst (N := 6) rfl ?_); refine Kd.R_lit (Kd.int .u8) _ 5 ?hg (N := 6) ?hd (xs := ([34] : List Int)) (inner := [.int .u8 34]) (ok := fun _ => True) (okp := fun _ => True) ?hr ?hp (fun _ hk => hk) trivial (Below.refl _ _) (Nat.le_refl _) (by simp) ?_; (case hd => rfl); (case hg => rfl); (case hr => first | (go_simp; done) | (go_simp; rfl)); (case hp => exact (Reps.one (show Kd.M (Kd.int .u8) _ _ _ 34 [.int .u8 34] from rfl) (Reps.none _ _))); intro v290 w2 ho3 hb hg_ hnew_; clear hg_ hnew_; (first | rw [← Ny289.out] at ho3 | (simp only [Int.reduceToNat] at ho3; rw [← Ny289.out] at ho3)); have n0_ := Aside0.mk (Kd.R_lower ho3 (below_size bw)); have n1_ := Aside0.mk (below_step bw hb); clear HB; have HO291 := n0_; have HB := n1_; clear n0_ n1_; clear hb ho3))
  go_loopg [3, 9] k (fun kq v3 v9 w' => ∃ (x3_1 : List Int) (x9_1 : Int), v9 = .int .i64 x9_1 ∧ Aside0 (lex_Quote.l0 kq a0 x3_1 (a0.size : Int) x9_1 = some r) ∧ Aside0 (kq ≤ k) ∧ Aside0 (Kd.R (Kd.int .u8) 5 w' w.heap.size (fun _ => True) v3 x3_1) ∧ Aside0 (Below w.heap.size w w'))
  case atStart => exact ⟨(y289), (0), eqv, H', ⟨Nat.le_refl _⟩, ⟨kr HO291⟩, ⟨bw⟩⟩
  case round =>
    clear H'
    try clear c1
    try clear p2
    obtain ⟨x3_1, x9_1, rfl, HA, HK1, HO_3, HB⟩ := hrel
    cases gk with
    | zero => exact absurd HA.out (by simp [lex_Quote.l0])
    | succ k1 =>
      have H := HA.out
      clear HA
      simp only [lex_Quote.l0] at H
      by_cases c4 : x9_1 < (a0.size : Int)
      · rw [if_pos c4] at H
        have c4b0 : decide (x9_1 < (a0.size : Int)) = true := decide_eq_true c4
        clear c4
        by_cases c5 : 0 ≤ x9_1
        · rw [if_pos c5] at H
          have c5b0 : decide (0 ≤ x9_1) = true := decide_eq_true c5
          clear c5
          by_cases c6 : x9_1 < (a0.size : Int)
          · rw [if_pos c6] at H
            have c6b0 : decide (x9_1 < (a0.size : Int)) = true := decide_eq_true c6
            clear c6
            have HC8 := Aside0.mk H
            clear H
            have p7 : 0 ≤ (x9_1 : Int) := of_decide_eq_true asm
            have q7 : x9_1 < (a0.size : Int) := of_decide_eq_true asm
            have hx7 := bt_at a0 x9_1
            replace p7 := eq_true p7
            replace q7 := eq_true q7
            go_upto_region 6 with (fail)
            go_cut [15] (fun v15 wc => ∃ (kq : Nat) (x15_7 : Bool), v15 = .bool x15_7 ∧ Aside0 (lex_Quote.j1 kq a0 x3_1 (bt a0 x9_1) (a0.size : Int) x9_1 x15_7 = some r) ∧ Aside0 (kq ≤ k1) ∧ Aside0 (Kd.R (Kd.int .u8) 5 wc w.heap.size (fun _ => True) u3 x3_1) ∧ Aside0 (Below w.heap.size w wc))
            case first =>
              have H := HC8.out
              clear HC8
              by_cases c9 : (bt a0 x9_1) = 34
              · rw [if_pos c9] at H
                have c9b0 : ((bt a0 x9_1) == 34) = true := beq_iff_eq.mpr c9
                have c9b1 : ((bt a0 x9_1) != 34) = false := bne_eq_false_iff_eq.mpr c9
                clear c9
                (first | rw [c9b0] | (simp only [i64_w, i32_w]; rw [c9b0]) | rw [c9bE] | skip)
                have H' := Aside0.mk H
                clear H
                go_wp2
                go_meet
                case rel => exact ⟨_, (true), eqv, H', ⟨by have := HK1.out; first | omega | exact Nat.le_refl _⟩, ⟨kr HO_3⟩, ⟨bw⟩⟩
              · rw [if_neg c9] at H
                have c9b0 : ((bt a0 x9_1) == 34) = false := beq_eq_false_iff_ne.mpr c9
                have c9b1 : ((bt a0 x9_1) != 34) = true := bne_iff_ne.mpr c9
                (first | rw [c9b0] | (simp only [i64_w, i32_w]; rw [c9b0]) | rw [c9bE] | skip)
                have H' := Aside0.mk H
                clear H
                go_wp2
                go_meet
                case rel => exact ⟨_, (((bt a0 x9_1) == 92)), eqv, H', ⟨by have := HK1.out; first | omega | exact Nat.le_refl _⟩, ⟨kr HO_3⟩, ⟨bw⟩⟩
            case rest =>
              clear HC8
              try clear c1
              try clear p2
              try clear c4
              try clear c4b0
              try clear c5
              try clear c5b0
              try clear c6
              try clear c6b0
              try clear p7
              try clear q7
              try clear hx7
              try clear c9
              try clear c9b0
              try clear c9b1
              try clear p2
              try clear p7
              try clear q7
              obtain ⟨kq, x15_7, rfl, HA, HJ7, HO_3, HB⟩ := hcut
              cases kq with
              | zero => exact absurd HA.out (by simp [lex_Quote.j1])
              | succ kj7 =>
                have H := HA.out
                clear HA
                simp only [lex_Quote.j1] at H
                by_cases c10 : x15_7 = true
                · subst c10
                  have H1 : (if x3_1.length < 140737488355328 then ((some (x3_1 ++ [92] : List Int)).bind fun y295 => (if y295.length < 140737488355328 then (lex_Quote.l0 kj7 a0 (y295 ++ [(bt a0 x9_1)]) (a0.size : Int) (wrap64 (x9_1 + 1))) else (none))) else (none)) = some r := by rw [if_pos rfl] at H; exact H
                  clear H
                  have H := H1
                  clear H1
                  by_cases c11 : x3_1.length < 140737488355328
                  · rw [if_pos c11] at H
                    have LMc11 := Aside0.mk c11
                    clear c11
                    obtain ⟨y295, hy295⟩ : ∃ y_ : List Int, y_ = (x3_1 ++ [92]) := ⟨_, rfl⟩
                    replace H : (if y295.length < 140737488355328 then (lex_Quote.l0 kj7 a0 (y295 ++ [(bt a0 x9_1)]) (a0.size : Int) (wrap64 (x9_1 + 1))) else (none)) = some r := by first | (rw [hy295]; with_reducible exact H) | (have H2_ := (Option.bind_some _ _).symm.trans H; rw [hy295]; with_reducible exact H2_) | (have H2_ := (Option.bind_some _ _).symm.trans H; with_reducible exact H2_) | with_reducible exact H | (rw [hy295]; exact H) | exact H
                    have Ny295 := Aside0.mk hy295
                    clear hy295
                    by_cases c12 : y295.length < 140737488355328
                    · rw [if_pos c12] at H
                      have LMc12 := Aside0.mk c12
                      clear c12
                      obtain ⟨y298, hy298⟩ : ∃ y_ : List Int, y_ = (y295 ++ [(bt a0 x9_1)]) := ⟨_, rfl⟩
                      replace H : (lex_Quote.l0 kj7 a0 y298 (a0.size : Int) (wrap64 (x9_1 + 1))) = some r := by first | (rw [hy298]; with_reducible exact H) | (have H2_ := (Option.bind_some _ _).symm.trans H; rw [hy298]; with_reducible exact H2_) | (have H2_ := (Option.bind_some _ _).symm.trans H; with_reducible exact H2_) | with_reducible exact H | (rw [hy298]; exact H) | exact H
                      have Ny298 := Aside0.mk hy298
                      clear hy298
                      have H' := Aside0.mk H
                      clear H
                      go_wp2_with (first | ((with_reducible refine gate_builtin (b := .append) (xs := #[.tmp 22, .tmp 23]) rfl ?_); at_builtin; refine Kd.R_append (Kd.int .u8) (w0 := w) w.heap.size rfl (.tmp 22) (.tmp 23) 50 5 (.int .u8 0) 1 rfl Tryz.underlying50 info5 rfl (by decide) (by omega) u3 x3_1 92 [.int .u8 92] (fun _ => True) (fun _ => False) rfl rfl ?aP (fun _ hk => hk.elim) ?aF ?aO ?aB ?aS ?aL ?_; (case aP => exact rfl); (case aB => exact bw); (case aF => exact (fun _ _ => trivial)); (case aO => exact (kr HO_3)); (case aS => exact (below_size bw)); (case aL => have := LMc11.out; omega); intro v296 w13 ho hb hg hat; rw [← Ny295.out] at ho; have n0_ := Aside0.mk (hb); have n1_ := Aside0.mk (ho); clear HB; clear HO_3; have HB := n0_; have HO297 := n1_; clear n0_ n1_; clear ho hb hg hat) | ((with_reducible refine gate_builtin (b := .append) (xs := #[.tmp 29, .tmp 31]) rfl ?_); at_builtin; refine Kd.R_append (Kd.int .u8) (w0 := w) w.heap.size rfl (.tmp 29) (.tmp 31) 50 5 (.int .u8 0) 1 rfl Tryz.underlying50 info5 rfl (by decide) (by omega) v296 y295 (bt a0 x9_1) [.int .u8 (bt a0 x9_1)] (fun _ => True) (fun _ => False) rfl rfl ?aP (fun _ hk => hk.elim) ?aF ?aO ?aB ?aS ?aL ?_; (case aP => exact rfl); (case aB => exact bw); (case aF => exact (fun _ _ => trivial)); (case aO => exact (kr HO297)); (case aS => exact (below_size bw)); (case aL => have := LMc12.out; omega); intro v299 w14 ho hb hg hat; rw [← Ny298.out] at ho; have n0_ := Aside0.mk (hb); have n1_ := Aside0.mk (ho); clear HB; clear HO297; have HB := n0_; have HO300 := n1_; clear n0_ n1_; clear ho hb hg hat))
                      go_roundg kj7
                      case measure => have := HK1.out; have := HJ7.out; omega
                      case rel => exact ⟨(y298), (wrap64 (x9_1 + 1)), eqv, H', ⟨by have := HK1.out; have := HJ7.out; omega⟩, ⟨kr HO300⟩, ⟨bw⟩⟩
                    · rw [if_neg c12] at H
                      exact absurd H (by simp)
                  · rw [if_neg c11] at H
                    exact absurd H (by simp)
                · replace c10 := Bool.eq_false_iff.mpr c10
                  subst c10
                  have H1 : ((lex_text.f (bt a0 x9_1)).bind fun t301 => (if t301 = true then (if x3_1.length < 140737488355328 then (lex_Quote.l0 kj7 a0 (x3_1 ++ [(bt a0 x9_1)]) (a0.size : Int) (wrap64 (x9_1 + 1))) else (none)) else (if x3_1.length < 140737488355328 then (lex_Quote.l0 kj7 a0 (x3_1 ++ [32]) (a0.size : Int) (wrap64 (x9_1 + 1))) else (none)))) = some r := by rw [if_neg (show ¬ (false = true) by decide)] at H; exact H
                  clear H
                  have H := H1
                  clear H1
                  replace H := Option.bind_eq_some_iff.mp H
                  obtain ⟨t301, A150, H⟩ := H
                  replace H : (if t301 = true then (if x3_1.length < 140737488355328 then (lex_Quote.l0 kj7 a0 (x3_1 ++ [(bt a0 x9_1)]) (a0.size : Int) (wrap64 (x9_1 + 1))) else (none)) else (if x3_1.length < 140737488355328 then (lex_Quote.l0 kj7 a0 (x3_1 ++ [32]) (a0.size : Int) (wrap64 (x9_1 + 1))) else (none))) = some r := H
                  have A15 := Aside0.mk A150
                  clear A150
                  by_cases c16 : t301 = true
                  · subst c16
                    have H1 : (if x3_1.length < 140737488355328 then (lex_Quote.l0 kj7 a0 (x3_1 ++ [(bt a0 x9_1)]) (a0.size : Int) (wrap64 (x9_1 + 1))) else (none)) = some r := by rw [if_pos rfl] at H; exact H
                    clear H
                    have H := H1
                    clear H1
                    by_cases c17 : x3_1.length < 140737488355328
                    · rw [if_pos c17] at H
                      have LMc17 := Aside0.mk c17
                      clear c17
                      obtain ⟨y302, hy302⟩ : ∃ y_ : List Int, y_ = (x3_1 ++ [(bt a0 x9_1)]) := ⟨_, rfl⟩
                      replace H : (lex_Quote.l0 kj7 a0 y302 (a0.size : Int) (wrap64 (x9_1 + 1))) = some r := by first | (rw [hy302]; with_reducible exact H) | (have H2_ := (Option.bind_some _ _).symm.trans H; rw [hy302]; with_reducible exact H2_) | (have H2_ := (Option.bind_some _ _).symm.trans H; with_reducible exact H2_) | with_reducible exact H | (rw [hy302]; exact H) | exact H
                      have Ny302 := Aside0.mk hy302
                      clear hy302
                      have H' := Aside0.mk H
                      clear H
                      go_wp2_with (first | ((with_reducible refine gate_callee (f := 221) rfl ?_); refine goesM (some 27) Tryz.func221 #[.int .u8 (bt a0 x9_1)] ?_; (with_reducible refine (lex_text.calls (bt a0 x9_1) true _ A15.out).mono ?_); rintro e w' ⟨rfl, ⟨nd, rfl⟩⟩; refine ⟨_, rfl, ?_⟩) | ((with_reducible refine gate_builtin (b := .append) (xs := #[.tmp 29, .tmp 31]) rfl ?_); at_builtin; refine Kd.R_append (Kd.int .u8) (w0 := w) w.heap.size rfl (.tmp 29) (.tmp 31) 50 5 (.int .u8 0) 1 rfl Tryz.underlying50 info5 rfl (by decide) (by omega) u3 x3_1 (bt a0 x9_1) [.int .u8 (bt a0 x9_1)] (fun _ => True) (fun _ => False) rfl rfl ?aP (fun _ hk => hk.elim) ?aF ?aO ?aB ?aS ?aL ?_; (case aP => exact rfl); (case aB => exact bw); (case aF => exact (fun _ _ => trivial)); (case aO => exact (kr HO_3)); (case aS => exact (below_size bw)); (case aL => have := LMc17.out; omega); intro v303 w18 ho hb hg hat; rw [← Ny302.out] at ho; have n0_ := Aside0.mk (hb); have n1_ := Aside0.mk (ho); clear HB; clear HO_3; have HB := n0_; have HO304 := n1_; clear n0_ n1_; clear ho hb hg hat))
                      go_roundg kj7
                      case measure => have := HK1.out; have := HJ7.out; omega
                      case rel => exact ⟨(y302), (wrap64 (x9_1 + 1)), eqv, H', ⟨by have := HK1.out; have := HJ7.out; omega⟩, ⟨kr HO304⟩, ⟨bw⟩⟩
                    · rw [if_neg c17] at H
                      exact absurd H (by simp)
                  · replace c16 := Bool.eq_false_iff.mpr c16
                    subst c16
                    have H1 : (if x3_1.length < 140737488355328 then (lex_Quote.l0 kj7 a0 (x3_1 ++ [32]) (a0.size : Int) (wrap64 (x9_1 + 1))) else (none)) = some r := by rw [if_neg (show ¬ (false = true) by decide)] at H; exact H
                    clear H
                    have H := H1
                    clear H1
                    by_cases c19 : x3_1.length < 140737488355328
                    · rw [if_pos c19] at H
                      have LMc19 := Aside0.mk c19
                      clear c19
                      obtain ⟨y305, hy305⟩ : ∃ y_ : List Int, y_ = (x3_1 ++ [32]) := ⟨_, rfl⟩
                      replace H : (lex_Quote.l0 kj7 a0 y305 (a0.size : Int) (wrap64 (x9_1 + 1))) = some r := by first | (rw [hy305]; with_reducible exact H) | (have H2_ := (Option.bind_some _ _).symm.trans H; rw [hy305]; with_reducible exact H2_) | (have H2_ := (Option.bind_some _ _).symm.trans H; with_reducible exact H2_) | with_reducible exact H | (rw [hy305]; exact H) | exact H
                      have Ny305 := Aside0.mk hy305
                      clear hy305
                      have H' := Aside0.mk H
                      clear H
                      go_wp2_with (first | ((with_reducible refine gate_callee (f := 221) rfl ?_); refine goesM (some 27) Tryz.func221 #[.int .u8 (bt a0 x9_1)] ?_; (with_reducible refine (lex_text.calls (bt a0 x9_1) false _ A15.out).mono ?_); rintro e w' ⟨rfl, ⟨nd, rfl⟩⟩; refine ⟨_, rfl, ?_⟩) | ((with_reducible refine gate_builtin (b := .append) (xs := #[.tmp 29, .tmp 31]) rfl ?_); at_builtin; refine Kd.R_append (Kd.int .u8) (w0 := w) w.heap.size rfl (.tmp 29) (.tmp 31) 50 5 (.int .u8 0) 1 rfl Tryz.underlying50 info5 rfl (by decide) (by omega) u3 x3_1 32 [.int .u8 32] (fun _ => True) (fun _ => False) rfl rfl ?aP (fun _ hk => hk.elim) ?aF ?aO ?aB ?aS ?aL ?_; (case aP => exact rfl); (case aB => exact bw); (case aF => exact (fun _ _ => trivial)); (case aO => exact (kr HO_3)); (case aS => exact (below_size bw)); (case aL => have := LMc19.out; omega); intro v306 w20 ho hb hg hat; rw [← Ny305.out] at ho; have n0_ := Aside0.mk (hb); have n1_ := Aside0.mk (ho); clear HB; clear HO_3; have HB := n0_; have HO307 := n1_; clear n0_ n1_; clear ho hb hg hat))
                      go_roundg kj7
                      case measure => have := HK1.out; have := HJ7.out; omega
                      case rel => exact ⟨(y305), (wrap64 (x9_1 + 1)), eqv, H', ⟨by have := HK1.out; have := HJ7.out; omega⟩, ⟨kr HO307⟩, ⟨bw⟩⟩
                    · rw [if_neg c19] at H
                      exact absurd H (by simp)
          · rw [if_neg c6] at H
            exact absurd H (by simp)
        · rw [if_neg c5] at H
          exact absurd H (by simp)
      · rw [if_neg c4] at H
        have c4b0 : decide (x9_1 < (a0.size : Int)) = false := decide_eq_false c4
        clear c4
        by_cases c21 : x3_1.length < 140737488355328
        · rw [if_pos c21] at H
          have LMc21 := Aside0.mk c21
          clear c21
          obtain ⟨y292, hy292⟩ : ∃ y_ : List Int, y_ = (x3_1 ++ [34]) := ⟨_, rfl⟩
          replace H : (some (strOfNums y292)) = some r := by first | (rw [hy292]; with_reducible exact H) | (have H2_ := (Option.bind_some _ _).symm.trans H; rw [hy292]; with_reducible exact H2_) | (have H2_ := (Option.bind_some _ _).symm.trans H; with_reducible exact H2_) | with_reducible exact H | (rw [hy292]; exact H) | exact H
          have Ny292 := Aside0.mk hy292
          clear hy292
          obtain rfl := Option.some.inj H
          go_wp2_with (first | ((with_reducible refine gate_builtin (b := .append) (xs := #[.tmp 34, .tmp 35]) rfl ?_); at_builtin; refine Kd.R_append (Kd.int .u8) (w0 := w) w.heap.size rfl (.tmp 34) (.tmp 35) 50 5 (.int .u8 0) 1 rfl Tryz.underlying50 info5 rfl (by decide) (by omega) u3 x3_1 34 [.int .u8 34] (fun _ => True) (fun _ => False) rfl rfl ?aP (fun _ hk => hk.elim) ?aF ?aO ?aB ?aS ?aL ?_; (case aP => exact rfl); (case aB => exact bw); (case aF => exact (fun _ _ => trivial)); (case aO => exact (kr HO_3)); (case aS => exact (below_size bw)); (case aL => have := LMc21.out; omega); intro v293 w22 ho hb hg hat; rw [← Ny292.out] at ho; have n0_ := Aside0.mk (hb); have n1_ := Aside0.mk (ho); clear HB; clear HO_3; have HB := n0_; have HO294 := n1_; clear n0_ n1_; clear ho hb hg hat; have hcv23 := own_string (P := Tryz.prog) Tryz.underlying50 Tryz.underlying5 Tryz.underlying9 (Kd.own_of_R HO294.out)))
          go_ret
          exact ⟨eqe, bw⟩
        · rw [if_neg c21] at H
          exact absurd H (by simp)
end Go.Proofs.YtjohcncekfcgpaaGreatDoor.P
end
section
namespace Go.Proofs.YtjohcncekfcgpaaGreatDoor.P
open Go.RowKit Go.Proofs.YtjohcncekfcgpaaGreatDoorW.PrintWords Go.Proofs.YtjohcncekfcgpaaGreatDoorW.PrintLast Go.Proofs.YtjohcncekfcgpaaGreatDoorW.PrintMore
attribute [local go_sem] max2_int min2_int max_two min_two max_three min_three max_four min_four
set_option linter.unusedVariables false
set_option linter.unusedSimpArgs false
def lex_escaped.f (a0 : ByteArray) : Option (Int) := if a0.toList = ([] : List UInt8) then (some 9) else (if 0 < (a0.size : Int) then ((lex_text.f (bt a0 0)).bind fun t1069 => (if t1069 = true then (some 0) else (some 3))) else (none))
set_option maxHeartbeats 8000000 in
set_option maxRecDepth 100000 in
theorem lex_escaped.calls (a0 : ByteArray) (r : Int) (w : World) (h : lex_escaped.f a0 = some r) :
    Calls Tryz.prog 265 #[.string a0] w fun e w' => e = .returned (.int .i64 r) ∧ Drawn0 w w' := by
  have H : (if a0.toList = ([] : List UInt8) then (some 9) else (if 0 < (a0.size : Int) then ((lex_text.f (bt a0 0)).bind fun t1069 => (if t1069 = true then (some 0) else (some 3))) else (none))) = some r := h
  clear h
  by_cases c2 : a0.toList = ([] : List UInt8)
  · rw [if_pos c2] at H
    have c2b0 : (a0.toList == ([] : List UInt8)) = true := beq_iff_eq.mpr c2
    have c2b1 : (a0.toList != ([] : List UInt8)) = false := bne_eq_false_iff_eq.mpr c2
    have c2bE : (a0.toList).isEmpty = true := List.isEmpty_iff.mpr c2
    clear c2
    obtain rfl := Option.some.inj H
    go_enter Tryz.func265, Tryz.ntmps265
    go_wp2
    go_ret
    exact ⟨eqv, dr⟩
  · rw [if_neg c2] at H
    have c2b0 : (a0.toList == ([] : List UInt8)) = false := beq_eq_false_iff_ne.mpr c2
    have c2b1 : (a0.toList != ([] : List UInt8)) = true := bne_iff_ne.mpr c2
    have c2bE : (a0.toList).isEmpty = false := List.isEmpty_eq_false_iff.mpr c2
    by_cases c3 : 0 < (a0.size : Int)
    · rw [if_pos c3] at H
      have c3b0 : decide (0 < (a0.size : Int)) = true := decide_eq_true c3
      have c3b1 : decide (0 < a0.size) = true := decide_eq_true (by omega)
      clear c3
      replace H := Option.bind_eq_some_iff.mp H
      obtain ⟨t1069, A50, H⟩ := H
      replace H : (if t1069 = true then (some 0) else (some 3)) = some r := H
      have A5 := Aside0.mk A50
      clear A50
      by_cases c6 : t1069 = true
      · subst c6
        have H1 : (some 0) = some r := by rw [if_pos rfl] at H; exact H
        clear H
        have H := H1
        clear H1
        obtain rfl := Option.some.inj H
        have p4 : 0 ≤ (0 : Int) := (by omega)
        have q4 : 0 < a0.size := (by have : (0 : Int) < (a0.size : Int) := of_decide_eq_true asm; omega)
        have hx4 : ∀ h : 0 < a0.size, ((a0[0]'h).toNat : Int) = bt a0 0 := bt_at a0 0
        clear p4
        have qi4 : (0 < (a0.size : Int)) = True := eq_true (of_decide_eq_true asm)
        replace q4 := eq_true q4
        go_enter Tryz.func265, Tryz.ntmps265
        go_wp2_with (first | ((with_reducible refine gate_callee (f := 221) rfl ?_); refine goesM (some 9) Tryz.func221 #[.int .u8 (bt a0 0)] ?_; (with_reducible refine (lex_text.calls (bt a0 0) true _ A5.out).mono ?_); rintro e w' ⟨rfl, ⟨nd, rfl⟩⟩; refine ⟨_, rfl, ?_⟩))
        go_ret
        exact ⟨eqv, dr⟩
      · replace c6 := Bool.eq_false_iff.mpr c6
        subst c6
        have H1 : (some 3) = some r := by rw [if_neg (show ¬ (false = true) by decide)] at H; exact H
        clear H
        have H := H1
        clear H1
        obtain rfl := Option.some.inj H
        have p4 : 0 ≤ (0 : Int) := (by omega)
        have q4 : 0 < a0.size := (by have : (0 : Int) < (a0.size : Int) := of_decide_eq_true asm; omega)
        have hx4 : ∀ h : 0 < a0.size, ((a0[0]'h).toNat : Int) = bt a0 0 := bt_at a0 0
        clear p4
        have qi4 : (0 < (a0.size : Int)) = True := eq_true (of_decide_eq_true asm)
        replace q4 := eq_true q4
        go_enter Tryz.func265, Tryz.ntmps265
        go_wp2_with (first | ((with_reducible refine gate_callee (f := 221) rfl ?_); refine goesM (some 9) Tryz.func221 #[.int .u8 (bt a0 0)] ?_; (with_reducible refine (lex_text.calls (bt a0 0) false _ A5.out).mono ?_); rintro e w' ⟨rfl, ⟨nd, rfl⟩⟩; refine ⟨_, rfl, ?_⟩))
        go_ret
        exact ⟨eqv, dr⟩
    · rw [if_neg c3] at H
      exact absurd H (by simp)
end Go.Proofs.YtjohcncekfcgpaaGreatDoor.P
end
section
namespace Go.Proofs.YtjohcncekfcgpaaGreatDoor.P
open Go.RowKit Go.Proofs.YtjohcncekfcgpaaGreatDoorW.PrintWords Go.Proofs.YtjohcncekfcgpaaGreatDoorW.PrintLast Go.Proofs.YtjohcncekfcgpaaGreatDoorW.PrintMore
attribute [local go_sem] max2_int min2_int max_two min_two max_three min_three max_four min_four
set_option linter.unusedVariables false
set_option linter.unusedSimpArgs false
def lex_white.f (a0 : Int) : Option (Bool) := if a0 = 32 then (some true) else (some (a0 == 9))
set_option maxHeartbeats 8000000 in
set_option maxRecDepth 100000 in
theorem lex_white.calls (a0 : Int) (r : Bool) (w : World) (h : lex_white.f a0 = some r) :
    Calls Tryz.prog 248 #[.int .u8 a0] w fun e w' => e = .returned (.bool r) ∧ Drawn0 w w' := by
  have H : (if a0 = 32 then (some true) else (some (a0 == 9))) = some r := h
  clear h
  by_cases c2 : a0 = 32
  · rw [if_pos c2] at H
    have c2b0 : (a0 == 32) = true := beq_iff_eq.mpr c2
    have c2b1 : (a0 != 32) = false := bne_eq_false_iff_eq.mpr c2
    clear c2
    obtain rfl := Option.some.inj H
    go_enter Tryz.func248, Tryz.ntmps248
    go_wp2
    go_ret
    exact ⟨eqv, dr⟩
  · rw [if_neg c2] at H
    have c2b0 : (a0 == 32) = false := beq_eq_false_iff_ne.mpr c2
    have c2b1 : (a0 != 32) = true := bne_iff_ne.mpr c2
    obtain rfl := Option.some.inj H
    go_enter Tryz.func248, Tryz.ntmps248
    go_wp2
    go_ret
    exact ⟨eqv, dr⟩
end Go.Proofs.YtjohcncekfcgpaaGreatDoor.P
end
section
namespace Go.Proofs.YtjohcncekfcgpaaGreatDoor.P
open Go.RowKit Go.Proofs.YtjohcncekfcgpaaGreatDoorW.PrintWords Go.Proofs.YtjohcncekfcgpaaGreatDoorW.PrintLast Go.Proofs.YtjohcncekfcgpaaGreatDoorW.PrintMore
attribute [local go_sem] max2_int min2_int max_two min_two max_three min_three max_four min_four
set_option linter.unusedVariables false
set_option linter.unusedSimpArgs false
def lex_fold.f (a0 : ByteArray) : Option (Bool) := if (a0.size : Int) > 2 then (if 0 < (a0.size : Int) then (if (bt a0 0) = 13 then (if 1 < (a0.size : Int) then (if (bt a0 1) = 10 then (if 2 < (a0.size : Int) then ((lex_white.f (bt a0 2)).bind fun t1068 => (some t1068)) else (none)) else (some false)) else (none)) else (some false)) else (none)) else (some false)
set_option maxHeartbeats 8000000 in
set_option maxRecDepth 100000 in
theorem lex_fold.calls (a0 : ByteArray) (r : Bool) (w : World) (h : lex_fold.f a0 = some r) :
    Calls Tryz.prog 249 #[.string a0] w fun e w' => e = .returned (.bool r) ∧ Drawn0 w w' := by
  have H : (if (a0.size : Int) > 2 then (if 0 < (a0.size : Int) then (if (bt a0 0) = 13 then (if 1 < (a0.size : Int) then (if (bt a0 1) = 10 then (if 2 < (a0.size : Int) then ((lex_white.f (bt a0 2)).bind fun t1068 => (some t1068)) else (none)) else (some false)) else (none)) else (some false)) else (none)) else (some false)) = some r := h
  clear h
  by_cases c2 : (a0.size : Int) > 2
  · rw [if_pos c2] at H
    have c2b0 : decide (2 < (a0.size : Int)) = true := decide_eq_true c2
    have c2b1 : decide (2 < a0.size) = true := decide_eq_true (by omega)
    clear c2
    by_cases c3 : 0 < (a0.size : Int)
    · rw [if_pos c3] at H
      have c3b0 : decide (0 < (a0.size : Int)) = true := decide_eq_true c3
      have c3b1 : decide (0 < a0.size) = true := decide_eq_true (by omega)
      clear c3
      by_cases c5 : (bt a0 0) = 13
      · rw [if_pos c5] at H
        have c5b0 : ((bt a0 0) == 13) = true := beq_iff_eq.mpr c5
        have c5b1 : ((bt a0 0) != 13) = false := bne_eq_false_iff_eq.mpr c5
        clear c5
        by_cases c6 : 1 < (a0.size : Int)
        · rw [if_pos c6] at H
          have c6b0 : decide (1 < (a0.size : Int)) = true := decide_eq_true c6
          have c6b1 : decide (1 < a0.size) = true := decide_eq_true (by omega)
          clear c6
          by_cases c8 : (bt a0 1) = 10
          · rw [if_pos c8] at H
            have c8b0 : ((bt a0 1) == 10) = true := beq_iff_eq.mpr c8
            have c8b1 : ((bt a0 1) != 10) = false := bne_eq_false_iff_eq.mpr c8
            clear c8
            by_cases c9 : 2 < (a0.size : Int)
            · rw [if_pos c9] at H
              have c9b0 : decide (2 < (a0.size : Int)) = true := decide_eq_true c9
              have c9b1 : decide (2 < a0.size) = true := decide_eq_true (by omega)
              clear c9
              replace H := Option.bind_eq_some_iff.mp H
              obtain ⟨t1068, A110, H⟩ := H
              replace H : (some t1068) = some r := H
              have A11 := Aside0.mk A110
              clear A110
              obtain rfl := Option.some.inj H
              have p4 : 0 ≤ (0 : Int) := (by omega)
              have q4 : 0 < a0.size := (by have : (0 : Int) < (a0.size : Int) := of_decide_eq_true asm; omega)
              have hx4 : ∀ h : 0 < a0.size, ((a0[0]'h).toNat : Int) = bt a0 0 := bt_at a0 0
              clear p4
              have qi4 : (0 < (a0.size : Int)) = True := eq_true (of_decide_eq_true asm)
              replace q4 := eq_true q4
              have p7 : 0 ≤ (1 : Int) := (by omega)
              have q7 : 1 < a0.size := (by have : (1 : Int) < (a0.size : Int) := of_decide_eq_true asm; omega)
              have hx7 : ∀ h : 1 < a0.size, ((a0[1]'h).toNat : Int) = bt a0 1 := bt_at a0 1
              clear p7
              have qi7 : (1 < (a0.size : Int)) = True := eq_true (of_decide_eq_true asm)
              replace q7 := eq_true q7
              have p10 : 0 ≤ (2 : Int) := (by omega)
              have q10 : 2 < a0.size := (by have : (2 : Int) < (a0.size : Int) := of_decide_eq_true asm; omega)
              have hx10 : ∀ h : 2 < a0.size, ((a0[2]'h).toNat : Int) = bt a0 2 := bt_at a0 2
              clear p10
              have qi10 : (2 < (a0.size : Int)) = True := eq_true (of_decide_eq_true asm)
              replace q10 := eq_true q10
              go_enter Tryz.func249, Tryz.ntmps249
              go_wp2_with (first | (go_at_call 248; (with_reducible refine (lex_white.calls (bt a0 2) t1068 _ A11.out).mono ?_); rintro e w' ⟨rfl, ⟨nd, rfl⟩⟩))
              go_ret
              exact ⟨eqv, dr⟩
            · rw [if_neg c9] at H
              exact absurd H (by simp)
          · rw [if_neg c8] at H
            have c8b0 : ((bt a0 1) == 10) = false := beq_eq_false_iff_ne.mpr c8
            have c8b1 : ((bt a0 1) != 10) = true := bne_iff_ne.mpr c8
            obtain rfl := Option.some.inj H
            have p4 : 0 ≤ (0 : Int) := (by omega)
            have q4 : 0 < a0.size := (by have : (0 : Int) < (a0.size : Int) := of_decide_eq_true asm; omega)
            have hx4 : ∀ h : 0 < a0.size, ((a0[0]'h).toNat : Int) = bt a0 0 := bt_at a0 0
            clear p4
            have qi4 : (0 < (a0.size : Int)) = True := eq_true (of_decide_eq_true asm)
            replace q4 := eq_true q4
            have p7 : 0 ≤ (1 : Int) := (by omega)
            have q7 : 1 < a0.size := (by have : (1 : Int) < (a0.size : Int) := of_decide_eq_true asm; omega)
            have hx7 : ∀ h : 1 < a0.size, ((a0[1]'h).toNat : Int) = bt a0 1 := bt_at a0 1
            clear p7
            have qi7 : (1 < (a0.size : Int)) = True := eq_true (of_decide_eq_true asm)
            replace q7 := eq_true q7
            go_enter Tryz.func249, Tryz.ntmps249
            go_wp2
            go_ret
            exact ⟨eqv, dr⟩
        · rw [if_neg c6] at H
          exact absurd H (by simp)
      · rw [if_neg c5] at H
        have c5b0 : ((bt a0 0) == 13) = false := beq_eq_false_iff_ne.mpr c5
        have c5b1 : ((bt a0 0) != 13) = true := bne_iff_ne.mpr c5
        obtain rfl := Option.some.inj H
        have p4 : 0 ≤ (0 : Int) := (by omega)
        have q4 : 0 < a0.size := (by have : (0 : Int) < (a0.size : Int) := of_decide_eq_true asm; omega)
        have hx4 : ∀ h : 0 < a0.size, ((a0[0]'h).toNat : Int) = bt a0 0 := bt_at a0 0
        clear p4
        have qi4 : (0 < (a0.size : Int)) = True := eq_true (of_decide_eq_true asm)
        replace q4 := eq_true q4
        go_enter Tryz.func249, Tryz.ntmps249
        go_wp2
        go_ret
        exact ⟨eqv, dr⟩
    · rw [if_neg c3] at H
      exact absurd H (by simp)
  · rw [if_neg c2] at H
    have c2b0 : decide (2 < (a0.size : Int)) = false := decide_eq_false c2
    have c2b1 : decide (2 < a0.size) = false := decide_eq_false (by omega)
    clear c2
    obtain rfl := Option.some.inj H
    go_enter Tryz.func249, Tryz.ntmps249
    go_wp2
    go_ret
    exact ⟨eqv, dr⟩
end Go.Proofs.YtjohcncekfcgpaaGreatDoor.P
end
