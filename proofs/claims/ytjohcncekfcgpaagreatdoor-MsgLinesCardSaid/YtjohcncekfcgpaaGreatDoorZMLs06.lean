/- A part of the proof of the card of MsgLines. -/
import Derived.WalkMore
import Derived.Test.YtjohcncekfcgpaaGreatDoorZMLs02
import Derived.Test.YtjohcncekfcgpaaGreatDoorZMLs05
import Derived.Test.YtjohcncekfcgpaaGreatDoorZMLs04
set_option linter.unusedVariables false
set_option linter.unusedSimpArgs false
section
namespace Go.Proofs.YtjohcncekfcgpaaGreatDoor.P
open Go.RowKit Go.Proofs.YtjohcncekfcgpaaGreatDoorW.PrintWords Go.Proofs.YtjohcncekfcgpaaGreatDoorW.PrintLast Go.Proofs.YtjohcncekfcgpaaGreatDoorW.PrintMore
attribute [local go_sem] max2_int min2_int max_two min_two max_three min_three max_four min_four
set_option linter.unusedVariables false
set_option linter.unusedSimpArgs false
mutual
def lex_comment.l0 : Nat → ByteArray → Int → Int → Option (ByteArray × Int)
  | 0, _, _, _ => none
  | k + 1, x0, x4, x5 => if x5 < (x0.size : Int) then (if 0 ≤ x5 then (if x5 ≤ (x0.size : Int) then ((lex_fold.f (x0.extract (x5 : Int).toNat x0.size)).bind fun t1070 => (if t1070 = true then (lex_comment.l0 k x0 x4 (wrap64 ((wrap64 (x5 + 1)) + 1))) else (if (bt x0 x5) = 92 then (if 0 ≤ (wrap64 (x5 + 1)) then (if (wrap64 (x5 + 1)) ≤ (x0.size : Int) then ((lex_escaped.f (x0.extract ((wrap64 (x5 + 1)) : Int).toNat x0.size)).bind fun t1071 => (if t1071 = 0 then (lex_comment.l0 k x0 x4 (wrap64 ((wrap64 (x5 + 1)) + 1))) else (some ((⟨#[]⟩ : ByteArray), t1071)))) else (none)) else (none)) else (if (bt x0 x5) = 40 then (lex_comment.j1 k x0 x4 x5 (bt x0 x5) (x4 == 16)) else (lex_comment.j1 k x0 x4 x5 (bt x0 x5) false))))) else (none)) else (none)) else (if x4 > 0 then (some ((⟨#[]⟩ : ByteArray), 9)) else (some (x0, 0)))
def lex_comment.j1 : Nat → ByteArray → Int → Int → Int → Bool → Option (ByteArray × Int)
  | 0, _, _, _, _, _ => none
  | k + 1, x0, x4, x5, x6, x36 => if x36 = true then (some ((⟨#[]⟩ : ByteArray), 1)) else (if x6 = 40 then (lex_comment.l0 k x0 (wrap64 (x4 + 1)) (wrap64 (x5 + 1))) else (if x6 = 41 then (lex_comment.j2 k x0 x4 x5 x6 (x4 == 1)) else (lex_comment.j2 k x0 x4 x5 x6 false)))
def lex_comment.j2 : Nat → ByteArray → Int → Int → Int → Bool → Option (ByteArray × Int)
  | 0, _, _, _, _, _ => none
  | k + 1, x0, x4, x5, x6, x48 => if x48 = true then (if 0 ≤ (wrap64 (x5 + 1)) then (if (wrap64 (x5 + 1)) ≤ (x0.size : Int) then (if 0 > 0 then (some ((⟨#[]⟩ : ByteArray), 9)) else (some (x0.extract ((wrap64 (x5 + 1)) : Int).toNat x0.size, 0))) else (none)) else (none)) else (if x6 = 41 then (lex_comment.l0 k x0 (wrap64 (x4 - 1)) (wrap64 (x5 + 1))) else ((lex_text.f x6).bind fun t1072 => (if t1072 = true then (lex_comment.l0 k x0 x4 (wrap64 (x5 + 1))) else (some ((⟨#[]⟩ : ByteArray), 3)))))
end
def lex_comment.f (k : Nat) (a0 : ByteArray) : Option (ByteArray × Int) := lex_comment.l0 k a0 0 0
theorem lex_comment.mono_l : ∀ k, (∀ y0 y1 y2, LeO (lex_comment.l0 k y0 y1 y2) (lex_comment.l0 (k + 1) y0 y1 y2)) ∧ (∀ y0 y1 y2 y3 y4, LeO (lex_comment.j1 k y0 y1 y2 y3 y4) (lex_comment.j1 (k + 1) y0 y1 y2 y3 y4)) ∧ (∀ y0 y1 y2 y3 y4, LeO (lex_comment.j2 k y0 y1 y2 y3 y4) (lex_comment.j2 (k + 1) y0 y1 y2 y3 y4))
  | 0 => ⟨fun _ _ _ r h => by simp [lex_comment.l0] at h, fun _ _ _ _ _ r h => by simp [lex_comment.j1] at h, fun _ _ _ _ _ r h => by simp [lex_comment.j2] at h⟩
  | k + 1 => by
    obtain ⟨ih0, ih1, ih2⟩ := lex_comment.mono_l k
    refine ⟨?_, ?_, ?_⟩
    · intro y0 y1 y2
      unfold lex_comment.l0
      repeat' first
      | (with_reducible exact ih0 _ _ _)
      | (with_reducible exact ih1 _ _ _ _ _)
      | (with_reducible exact ih2 _ _ _ _ _)
      | (with_reducible exact LeO.refl _)
      | (with_reducible exact LeO.none _)
      | (with_reducible refine LeO.ite ?_ ?_)
      | (with_reducible refine LeO.bind ?_ (fun _ => ?_))
      | exact ih0 _ _ _
      | exact ih1 _ _ _ _ _
      | exact ih2 _ _ _ _ _
      | exact LeO.none _
      | refine LeO.ite ?_ ?_
      | refine LeO.bind ?_ (fun _ => ?_)
    · intro y0 y1 y2 y3 y4
      unfold lex_comment.j1
      repeat' first
      | (with_reducible exact ih0 _ _ _)
      | (with_reducible exact ih1 _ _ _ _ _)
      | (with_reducible exact ih2 _ _ _ _ _)
      | (with_reducible exact LeO.refl _)
      | (with_reducible exact LeO.none _)
      | (with_reducible refine LeO.ite ?_ ?_)
      | (with_reducible refine LeO.bind ?_ (fun _ => ?_))
      | exact ih0 _ _ _
      | exact ih1 _ _ _ _ _
      | exact ih2 _ _ _ _ _
      | exact LeO.none _
      | refine LeO.ite ?_ ?_
      | refine LeO.bind ?_ (fun _ => ?_)
    · intro y0 y1 y2 y3 y4
      unfold lex_comment.j2
      repeat' first
      | (with_reducible exact ih0 _ _ _)
      | (with_reducible exact ih1 _ _ _ _ _)
      | (with_reducible exact ih2 _ _ _ _ _)
      | (with_reducible exact LeO.refl _)
      | (with_reducible exact LeO.none _)
      | (with_reducible refine LeO.ite ?_ ?_)
      | (with_reducible refine LeO.bind ?_ (fun _ => ?_))
      | exact ih0 _ _ _
      | exact ih1 _ _ _ _ _
      | exact ih2 _ _ _ _ _
      | exact LeO.none _
      | refine LeO.ite ?_ ?_
      | refine LeO.bind ?_ (fun _ => ?_)
theorem lex_comment.mono : ∀ a0 k, LeO (lex_comment.f k a0) (lex_comment.f (k + 1) a0) := by
  intro a0 k
  obtain ⟨ih0, ih1, ih2⟩ := lex_comment.mono_l k
  unfold lex_comment.f
  repeat' first
      | (with_reducible exact ih0 _ _ _)
      | (with_reducible exact ih1 _ _ _ _ _)
      | (with_reducible exact ih2 _ _ _ _ _)
      | (with_reducible exact LeO.refl _)
      | (with_reducible exact LeO.none _)
      | (with_reducible refine LeO.ite ?_ ?_)
      | (with_reducible refine LeO.bind ?_ (fun _ => ?_))
      | exact ih0 _ _ _
      | exact ih1 _ _ _ _ _
      | exact ih2 _ _ _ _ _
      | exact LeO.none _
      | refine LeO.ite ?_ ?_
      | refine LeO.bind ?_ (fun _ => ?_)
set_option maxHeartbeats 8000000 in
set_option maxRecDepth 100000 in
theorem lex_comment.calls (k : Nat) (a0 : ByteArray) (r1 : ByteArray) (r2 : Int) (w : World) (h : lex_comment.f k a0 = some (r1, r2)) :
    Calls Tryz.prog 250 #[.string a0] w fun e w' => e = .returned (.tuple #[.string r1, .int .i64 r2]) ∧ Drawn0 w w' := by
  have H : (lex_comment.l0 k a0 0 0) = some (r1, r2) := h
  clear h
  have H' := Aside0.mk H
  clear H
  go_enter Tryz.func250, Tryz.ntmps250
  go_wp2
  iterate 3 (try (first | go_step3 | (simp only [Exit.noGoto_ret, Exit.noGoto_normal, Exit.noGoto_exit]; done) | simp only [Exit.noGoto_ret, Exit.noGoto_normal, Exit.noGoto_exit]); (try go_wp2))
  go_loopg [0, 4, 5] k (fun kq v0 v4 v5 w' => ∃ (x0_1 : ByteArray) (x4_1 : Int) (x5_1 : Int), v0 = .string x0_1 ∧ v4 = .int .i64 x4_1 ∧ v5 = .int .i64 x5_1 ∧ Aside0 (lex_comment.l0 kq x0_1 x4_1 x5_1 = some (r1, r2)) ∧ Aside0 (kq ≤ k) ∧ Drawn0 w w')
  case atStart => exact ⟨(a0), (0), (0), eqv, eqv, eqv, H', ⟨Nat.le_refl _⟩, dr⟩
  case round =>
    clear H'
    obtain ⟨x0_1, x4_1, x5_1, rfl, rfl, rfl, HA, HK1, ⟨m1, rfl⟩⟩ := hrel
    cases gk with
    | zero => exact absurd HA.out (by simp [lex_comment.l0])
    | succ k1 =>
      have H := HA.out
      clear HA
      simp only [lex_comment.l0] at H
      by_cases c2 : x5_1 < (x0_1.size : Int)
      · rw [if_pos c2] at H
        have c2b0 : decide (x5_1 < (x0_1.size : Int)) = true := decide_eq_true c2
        clear c2
        by_cases c3 : 0 ≤ x5_1
        · rw [if_pos c3] at H
          have c3b0 : decide (0 ≤ x5_1) = true := decide_eq_true c3
          clear c3
          have c5b0 := eq_true (of_decide_eq_true asm : 0 ≤ x5_1)
          by_cases c6 : x5_1 ≤ (x0_1.size : Int)
          · rw [if_pos c6] at H
            have c6b0 := eq_true c6
            have c6b1 : decide (x5_1 ≤ (x0_1.size : Int)) = true := decide_eq_true c6
            clear c6
            replace H := Option.bind_eq_some_iff.mp H
            obtain ⟨t1070, A70, H⟩ := H
            replace H : (if t1070 = true then (lex_comment.l0 k1 x0_1 x4_1 (wrap64 ((wrap64 (x5_1 + 1)) + 1))) else (if (bt x0_1 x5_1) = 92 then (if 0 ≤ (wrap64 (x5_1 + 1)) then (if (wrap64 (x5_1 + 1)) ≤ (x0_1.size : Int) then ((lex_escaped.f (x0_1.extract ((wrap64 (x5_1 + 1)) : Int).toNat x0_1.size)).bind fun t1071 => (if t1071 = 0 then (lex_comment.l0 k1 x0_1 x4_1 (wrap64 ((wrap64 (x5_1 + 1)) + 1))) else (some ((⟨#[]⟩ : ByteArray), t1071)))) else (none)) else (none)) else (if (bt x0_1 x5_1) = 40 then (lex_comment.j1 k1 x0_1 x4_1 x5_1 (bt x0_1 x5_1) (x4_1 == 16)) else (lex_comment.j1 k1 x0_1 x4_1 x5_1 (bt x0_1 x5_1) false)))) = some (r1, r2) := H
            have A7 := Aside0.mk A70
            clear A70
            by_cases c8 : t1070 = true
            · subst c8
              have H1 : (lex_comment.l0 k1 x0_1 x4_1 (wrap64 ((wrap64 (x5_1 + 1)) + 1))) = some (r1, r2) := by rw [if_pos rfl] at H; exact H
              clear H
              have H := H1
              clear H1
              have H' := Aside0.mk H
              clear H
              have p4 : 0 ≤ (x5_1 : Int) := of_decide_eq_true asm
              have q4 : x5_1 < (x0_1.size : Int) := of_decide_eq_true asm
              have hx4 := bt_at x0_1 x5_1
              replace p4 := eq_true p4
              replace q4 := eq_true q4
              go_wp2_with (first | ((with_reducible refine gate_callee (f := 249) rfl ?_); refine goesM (some 21) Tryz.func249 #[.string (x0_1.extract (x5_1 : Int).toNat x0_1.size)] ?_; (with_reducible refine (lex_fold.calls (x0_1.extract (x5_1 : Int).toNat x0_1.size) true _ A7.out).mono ?_); rintro e w' ⟨rfl, ⟨nd, rfl⟩⟩; refine ⟨_, rfl, ?_⟩))
              iterate 3 (try (first | go_step3 | (simp only [Exit.noGoto_ret, Exit.noGoto_normal, Exit.noGoto_exit]; done) | simp only [Exit.noGoto_ret, Exit.noGoto_normal, Exit.noGoto_exit]); (try go_wp2))
              go_roundg k1
              case measure => have := HK1.out; omega
              case rel => exact ⟨(x0_1), (x4_1), (wrap64 ((wrap64 (x5_1 + 1)) + 1)), eqv, eqv, eqv, H', ⟨by have := HK1.out; omega⟩, dr⟩
            · replace c8 := Bool.eq_false_iff.mpr c8
              subst c8
              have H1 : (if (bt x0_1 x5_1) = 92 then (if 0 ≤ (wrap64 (x5_1 + 1)) then (if (wrap64 (x5_1 + 1)) ≤ (x0_1.size : Int) then ((lex_escaped.f (x0_1.extract ((wrap64 (x5_1 + 1)) : Int).toNat x0_1.size)).bind fun t1071 => (if t1071 = 0 then (lex_comment.l0 k1 x0_1 x4_1 (wrap64 ((wrap64 (x5_1 + 1)) + 1))) else (some ((⟨#[]⟩ : ByteArray), t1071)))) else (none)) else (none)) else (if (bt x0_1 x5_1) = 40 then (lex_comment.j1 k1 x0_1 x4_1 x5_1 (bt x0_1 x5_1) (x4_1 == 16)) else (lex_comment.j1 k1 x0_1 x4_1 x5_1 (bt x0_1 x5_1) false))) = some (r1, r2) := by rw [if_neg (show ¬ (false = true) by decide)] at H; exact H
              clear H
              have H := H1
              clear H1
              by_cases c9 : (bt x0_1 x5_1) = 92
              · rw [if_pos c9] at H
                have c9b0 : ((bt x0_1 x5_1) == 92) = true := beq_iff_eq.mpr c9
                have c9b1 : ((bt x0_1 x5_1) != 92) = false := bne_eq_false_iff_eq.mpr c9
                clear c9
                obtain ⟨ji10, hji10⟩ : ∃ j_ : Int, (wrap64 (x5_1 + 1)) = j_ := ⟨_, rfl⟩
                replace H : (if 0 ≤ (ji10) then (if (ji10) ≤ (x0_1.size : Int) then ((lex_escaped.f (x0_1.extract ((ji10) : Int).toNat x0_1.size)).bind fun t1071 => (if t1071 = 0 then (lex_comment.l0 k1 x0_1 x4_1 (wrap64 ((ji10) + 1))) else (some ((⟨#[]⟩ : ByteArray), t1071)))) else (none)) else (none)) = some (r1, r2) := by first | (rw [hji10] at H; exact H) | (simp only [hji10] at H ⊢; exact H)
                (try rw [hji10] at A7)
                have hji10w : (IntKind.i64.wrap (x5_1 + 1)) = ji10 := (i64_w _).trans hji10
                by_cases c11 : 0 ≤ (ji10)
                · rw [if_pos c11] at H
                  have c11b0 := eq_true c11
                  have c11b1 : decide (0 ≤ (ji10)) = true := decide_eq_true c11
                  clear c11
                  by_cases c12 : (ji10) ≤ (x0_1.size : Int)
                  · rw [if_pos c12] at H
                    have c12b0 := eq_true c12
                    have c12b1 : decide ((ji10) ≤ (x0_1.size : Int)) = true := decide_eq_true c12
                    clear c12
                    replace H := Option.bind_eq_some_iff.mp H
                    obtain ⟨t1071, A130, H⟩ := H
                    replace H : (if t1071 = 0 then (lex_comment.l0 k1 x0_1 x4_1 (wrap64 ((ji10) + 1))) else (some ((⟨#[]⟩ : ByteArray), t1071))) = some (r1, r2) := H
                    have A13 := Aside0.mk A130
                    clear A130
                    by_cases c14 : t1071 = 0
                    · rw [if_pos c14] at H
                      have c14b0 : (t1071 == 0) = true := beq_iff_eq.mpr c14
                      have c14b1 : (t1071 != 0) = false := bne_eq_false_iff_eq.mpr c14
                      clear c14
                      have H' := Aside0.mk H
                      clear H
                      have p4 : 0 ≤ (x5_1 : Int) := of_decide_eq_true asm
                      have q4 : x5_1 < (x0_1.size : Int) := of_decide_eq_true asm
                      have hx4 := bt_at x0_1 x5_1
                      replace p4 := eq_true p4
                      replace q4 := eq_true q4
                      go_wp2_with (first | ((with_reducible refine gate_callee (f := 249) rfl ?_); refine goesM (some 21) Tryz.func249 #[.string (x0_1.extract (x5_1 : Int).toNat x0_1.size)] ?_; (with_reducible refine (lex_fold.calls (x0_1.extract (x5_1 : Int).toNat x0_1.size) false _ A7.out).mono ?_); rintro e w' ⟨rfl, ⟨nd, rfl⟩⟩; refine ⟨_, rfl, ?_⟩) | ((with_reducible refine gate_callee (f := 265) rfl ?_); refine goesL_ (some 32) rfl rfl Tryz.func265 (by kernel_rfl) rfl #[.string (x0_1.extract ((ji10) : Int).toNat x0_1.size)] rfl (by (try simp only [List.map_toArray, List.map_cons, List.map_nil]); first | done | (simp only [hji10]; rfl) | rfl | (simp only [List.length_drop, List.length_take]; rfl)) ?_; (with_reducible refine (lex_escaped.calls (x0_1.extract ((ji10) : Int).toNat x0_1.size) t1071 _ A13.out).mono ?_); rintro e w' ⟨rfl, ⟨nd, rfl⟩⟩; refine ⟨_, rfl, ?_⟩))
                      iterate 3 (try (first | go_step3 | (simp only [Exit.noGoto_ret, Exit.noGoto_normal, Exit.noGoto_exit]; done) | simp only [Exit.noGoto_ret, Exit.noGoto_normal, Exit.noGoto_exit]); (try go_wp2))
                      go_roundg k1
                      case measure => have := HK1.out; omega
                      case rel => exact ⟨(x0_1), (x4_1), (wrap64 ((ji10) + 1)), eqv, eqv, (by first | rfl | (simp; done) | (simp only [← hji10] <;> (first | rfl | simp)) | (simp [*]; done)), H', ⟨by have := HK1.out; omega⟩, dr⟩
                    · rw [if_neg c14] at H
                      have c14b0 : (t1071 == 0) = false := beq_eq_false_iff_ne.mpr c14
                      have c14b1 : (t1071 != 0) = true := bne_iff_ne.mpr c14
                      simp only [Option.some.injEq, Prod.mk.injEq] at H
                      obtain ⟨rfl, rfl⟩ := H
                      have p4 : 0 ≤ (x5_1 : Int) := of_decide_eq_true asm
                      have q4 : x5_1 < (x0_1.size : Int) := of_decide_eq_true asm
                      have hx4 := bt_at x0_1 x5_1
                      replace p4 := eq_true p4
                      replace q4 := eq_true q4
                      go_wp2_with (first | ((with_reducible refine gate_callee (f := 249) rfl ?_); refine goesM (some 21) Tryz.func249 #[.string (x0_1.extract (x5_1 : Int).toNat x0_1.size)] ?_; (with_reducible refine (lex_fold.calls (x0_1.extract (x5_1 : Int).toNat x0_1.size) false _ A7.out).mono ?_); rintro e w' ⟨rfl, ⟨nd, rfl⟩⟩; refine ⟨_, rfl, ?_⟩) | ((with_reducible refine gate_callee (f := 265) rfl ?_); refine goesL_ (some 32) rfl rfl Tryz.func265 (by kernel_rfl) rfl #[.string (x0_1.extract ((ji10) : Int).toNat x0_1.size)] rfl (by (try simp only [List.map_toArray, List.map_cons, List.map_nil]); first | done | (simp only [hji10]; rfl) | rfl | (simp only [List.length_drop, List.length_take]; rfl)) ?_; (with_reducible refine (lex_escaped.calls (x0_1.extract ((ji10) : Int).toNat x0_1.size) t1071 _ A13.out).mono ?_); rintro e w' ⟨rfl, ⟨nd, rfl⟩⟩; refine ⟨_, rfl, ?_⟩))
                      iterate 3 (try (first | go_step3 | (simp only [Exit.noGoto_ret, Exit.noGoto_normal, Exit.noGoto_exit]; done) | simp only [Exit.noGoto_ret, Exit.noGoto_normal, Exit.noGoto_exit]); (try go_wp2))
                      go_ret2
                      exact ⟨by first | rfl | (simp; done) | (simp only [← hji10] <;> (first | rfl | simp)) | (simp [*]; done), dr⟩
                  · rw [if_neg c12] at H
                    exact absurd H (by simp)
                · rw [if_neg c11] at H
                  exact absurd H (by simp)
              · rw [if_neg c9] at H
                have c9b0 : ((bt x0_1 x5_1) == 92) = false := beq_eq_false_iff_ne.mpr c9
                have c9b1 : ((bt x0_1 x5_1) != 92) = true := bne_iff_ne.mpr c9
                have HC15 := Aside0.mk H
                clear H
                have p4 : 0 ≤ (x5_1 : Int) := of_decide_eq_true asm
                have q4 : x5_1 < (x0_1.size : Int) := of_decide_eq_true asm
                have hx4 := bt_at x0_1 x5_1
                replace p4 := eq_true p4
                replace q4 := eq_true q4
                go_upto_region 13 with (first | ((with_reducible refine gate_callee (f := 249) rfl ?_); refine goesM (some 21) Tryz.func249 #[.string (x0_1.extract (x5_1 : Int).toNat x0_1.size)] ?_; (with_reducible refine (lex_fold.calls (x0_1.extract (x5_1 : Int).toNat x0_1.size) false _ A7.out).mono ?_); rintro e w' ⟨rfl, ⟨nd, rfl⟩⟩; refine ⟨_, rfl, ?_⟩))
                (try simp only [Act.put, List.setIfInBounds_toArray, List.set_cons_zero, List.set_cons_succ])
                go_cut [36] (fun v36 wc => ∃ (kq : Nat) (x36_14 : Bool), v36 = .bool x36_14 ∧ Aside0 (lex_comment.j1 kq x0_1 x4_1 x5_1 (bt x0_1 x5_1) x36_14 = some (r1, r2)) ∧ Aside0 (kq ≤ k1) ∧ Drawn0 w wc)
                case first =>
                  have H := HC15.out
                  clear HC15
                  by_cases c16 : (bt x0_1 x5_1) = 40
                  · rw [if_pos c16] at H
                    have c16b0 : ((bt x0_1 x5_1) == 40) = true := beq_iff_eq.mpr c16
                    have c16b1 : ((bt x0_1 x5_1) != 40) = false := bne_eq_false_iff_eq.mpr c16
                    clear c16
                    (first | rw [c16b0] | (simp only [i64_w, i32_w]; rw [c16b0]) | rw [c16bE] | skip)
                    have H' := Aside0.mk H
                    clear H
                    go_wp2
                    iterate 3 (try (first | go_step3 | (simp only [Exit.noGoto_ret, Exit.noGoto_normal, Exit.noGoto_exit]; done) | simp only [Exit.noGoto_ret, Exit.noGoto_normal, Exit.noGoto_exit]); (try go_wp2))
                    go_meet
                    case rel => exact ⟨_, ((x4_1 == 16)), eqv, H', ⟨by have := HK1.out; first | omega | exact Nat.le_refl _⟩, dr⟩
                  · rw [if_neg c16] at H
                    have c16b0 : ((bt x0_1 x5_1) == 40) = false := beq_eq_false_iff_ne.mpr c16
                    have c16b1 : ((bt x0_1 x5_1) != 40) = true := bne_iff_ne.mpr c16
                    (first | rw [c16b0] | (simp only [i64_w, i32_w]; rw [c16b0]) | rw [c16bE] | skip)
                    have H' := Aside0.mk H
                    clear H
                    go_wp2
                    iterate 3 (try (first | go_step3 | (simp only [Exit.noGoto_ret, Exit.noGoto_normal, Exit.noGoto_exit]; done) | simp only [Exit.noGoto_ret, Exit.noGoto_normal, Exit.noGoto_exit]); (try go_wp2))
                    go_meet
                    case rel => exact ⟨_, (false), eqv, H', ⟨by have := HK1.out; first | omega | exact Nat.le_refl _⟩, dr⟩
                case rest =>
                  clear HC15
                  try clear c1
                  try clear c2
                  try clear c2b0
                  try clear p2
                  try clear c3
                  try clear c3b0
                  try clear p4
                  try clear q4
                  try clear hx4
                  try clear c5
                  try clear c5b0
                  try clear c6
                  try clear c6b0
                  try clear c6b1
                  try clear p6
                  try clear c8
                  try clear c9
                  try clear c9b0
                  try clear c9b1
                  try clear c11
                  try clear c11b0
                  try clear c11b1
                  try clear c12
                  try clear c12b0
                  try clear c12b1
                  try clear c14
                  try clear c14b0
                  try clear c14b1
                  try clear c16
                  try clear c16b0
                  try clear c16b1
                  try clear p4
                  try clear q4
                  obtain ⟨kq, x36_14, rfl, HA, HJ14, ⟨mc14, rfl⟩⟩ := hcut
                  cases kq with
                  | zero => exact absurd HA.out (by simp [lex_comment.j1])
                  | succ kj14 =>
                    have H := HA.out
                    clear HA
                    simp only [lex_comment.j1] at H
                    by_cases c17 : x36_14 = true
                    · subst c17
                      have H1 : (some ((⟨#[]⟩ : ByteArray), 1)) = some (r1, r2) := by rw [if_pos rfl] at H; exact H
                      clear H
                      have H := H1
                      clear H1
                      simp only [Option.some.injEq, Prod.mk.injEq] at H
                      obtain ⟨rfl, rfl⟩ := H
                      go_wp2
                      iterate 3 (try (first | go_step3 | (simp only [Exit.noGoto_ret, Exit.noGoto_normal, Exit.noGoto_exit]; done) | simp only [Exit.noGoto_ret, Exit.noGoto_normal, Exit.noGoto_exit]); (try go_wp2))
                      go_ret2
                      exact ⟨eqv, dr⟩
                    · replace c17 := Bool.eq_false_iff.mpr c17
                      subst c17
                      have H1 : (if (bt x0_1 x5_1) = 40 then (lex_comment.l0 kj14 x0_1 (wrap64 (x4_1 + 1)) (wrap64 (x5_1 + 1))) else (if (bt x0_1 x5_1) = 41 then (lex_comment.j2 kj14 x0_1 x4_1 x5_1 (bt x0_1 x5_1) (x4_1 == 1)) else (lex_comment.j2 kj14 x0_1 x4_1 x5_1 (bt x0_1 x5_1) false))) = some (r1, r2) := by rw [if_neg (show ¬ (false = true) by decide)] at H; exact H
                      clear H
                      have H := H1
                      clear H1
                      by_cases c18 : (bt x0_1 x5_1) = 40
                      · rw [if_pos c18] at H
                        have c18b0 : ((bt x0_1 x5_1) == 40) = true := beq_iff_eq.mpr c18
                        have c18b1 : ((bt x0_1 x5_1) != 40) = false := bne_eq_false_iff_eq.mpr c18
                        clear c18
                        have H' := Aside0.mk H
                        clear H
                        go_wp2
                        iterate 3 (try (first | go_step3 | (simp only [Exit.noGoto_ret, Exit.noGoto_normal, Exit.noGoto_exit]; done) | simp only [Exit.noGoto_ret, Exit.noGoto_normal, Exit.noGoto_exit]); (try go_wp2))
                        go_roundg kj14
                        case measure => have := HK1.out; have := HJ14.out; omega
                        case rel => exact ⟨(x0_1), (wrap64 (x4_1 + 1)), (wrap64 (x5_1 + 1)), eqv, eqv, eqv, H', ⟨by have := HK1.out; have := HJ14.out; omega⟩, dr⟩
                      · rw [if_neg c18] at H
                        have c18b0 : ((bt x0_1 x5_1) == 40) = false := beq_eq_false_iff_ne.mpr c18
                        have c18b1 : ((bt x0_1 x5_1) != 40) = true := bne_iff_ne.mpr c18
                        have HC19 := Aside0.mk H
                        clear H
                        go_upto_region 17 with (fail)
                        go_cut [48] (fun v48 wc => ∃ (kq : Nat) (x48_18 : Bool), v48 = .bool x48_18 ∧ Aside0 (lex_comment.j2 kq x0_1 x4_1 x5_1 (bt x0_1 x5_1) x48_18 = some (r1, r2)) ∧ Aside0 (kq ≤ kj14) ∧ Drawn0 w wc)
                        case first =>
                          have H := HC19.out
                          clear HC19
                          by_cases c20 : (bt x0_1 x5_1) = 41
                          · rw [if_pos c20] at H
                            have c20b0 : ((bt x0_1 x5_1) == 41) = true := beq_iff_eq.mpr c20
                            have c20b1 : ((bt x0_1 x5_1) != 41) = false := bne_eq_false_iff_eq.mpr c20
                            clear c20
                            (first | rw [c20b0] | (simp only [i64_w, i32_w]; rw [c20b0]) | rw [c20bE] | skip)
                            have H' := Aside0.mk H
                            clear H
                            go_wp2
                            iterate 3 (try (first | go_step3 | (simp only [Exit.noGoto_ret, Exit.noGoto_normal, Exit.noGoto_exit]; done) | simp only [Exit.noGoto_ret, Exit.noGoto_normal, Exit.noGoto_exit]); (try go_wp2))
                            go_meet
                            case rel => exact ⟨_, ((x4_1 == 1)), eqv, H', ⟨by have := HK1.out; have := HJ14.out; first | omega | exact Nat.le_refl _⟩, dr⟩
                          · rw [if_neg c20] at H
                            have c20b0 : ((bt x0_1 x5_1) == 41) = false := beq_eq_false_iff_ne.mpr c20
                            have c20b1 : ((bt x0_1 x5_1) != 41) = true := bne_iff_ne.mpr c20
                            (first | rw [c20b0] | (simp only [i64_w, i32_w]; rw [c20b0]) | rw [c20bE] | skip)
                            have H' := Aside0.mk H
                            clear H
                            go_wp2
                            iterate 3 (try (first | go_step3 | (simp only [Exit.noGoto_ret, Exit.noGoto_normal, Exit.noGoto_exit]; done) | simp only [Exit.noGoto_ret, Exit.noGoto_normal, Exit.noGoto_exit]); (try go_wp2))
                            go_meet
                            case rel => exact ⟨_, (false), eqv, H', ⟨by have := HK1.out; have := HJ14.out; first | omega | exact Nat.le_refl _⟩, dr⟩
                        case rest =>
                          clear HC19
                          try clear c1
                          try clear c2
                          try clear c2b0
                          try clear p2
                          try clear c3
                          try clear c3b0
                          try clear p4
                          try clear q4
                          try clear hx4
                          try clear c5
                          try clear c5b0
                          try clear c6
                          try clear c6b0
                          try clear c6b1
                          try clear p6
                          try clear c8
                          try clear c9
                          try clear c9b0
                          try clear c9b1
                          try clear c11
                          try clear c11b0
                          try clear c11b1
                          try clear c12
                          try clear c12b0
                          try clear c12b1
                          try clear c14
                          try clear c14b0
                          try clear c14b1
                          try clear c16
                          try clear c16b0
                          try clear c16b1
                          try clear c17
                          try clear c18
                          try clear c18b0
                          try clear c18b1
                          try clear c20
                          try clear c20b0
                          try clear c20b1
                          try clear p2
                          try clear p4
                          try clear p6
                          try clear q4
                          obtain ⟨kq, x48_18, rfl, HA, HJ18, ⟨mc18, rfl⟩⟩ := hcut
                          cases kq with
                          | zero => exact absurd HA.out (by simp [lex_comment.j2])
                          | succ kj18 =>
                            have H := HA.out
                            clear HA
                            simp only [lex_comment.j2] at H
                            by_cases c21 : x48_18 = true
                            · subst c21
                              have H1 : (if 0 ≤ (wrap64 (x5_1 + 1)) then (if (wrap64 (x5_1 + 1)) ≤ (x0_1.size : Int) then (if 0 > 0 then (some ((⟨#[]⟩ : ByteArray), 9)) else (some (x0_1.extract ((wrap64 (x5_1 + 1)) : Int).toNat x0_1.size, 0))) else (none)) else (none)) = some (r1, r2) := by rw [if_pos rfl] at H; exact H
                              clear H
                              have H := H1
                              clear H1
                              obtain ⟨ji22, hji22⟩ : ∃ j_ : Int, (wrap64 (x5_1 + 1)) = j_ := ⟨_, rfl⟩
                              replace H : (if 0 ≤ (ji22) then (if (ji22) ≤ (x0_1.size : Int) then (if 0 > 0 then (some ((⟨#[]⟩ : ByteArray), 9)) else (some (x0_1.extract ((ji22) : Int).toNat x0_1.size, 0))) else (none)) else (none)) = some (r1, r2) := by first | (rw [hji22] at H; exact H) | (simp only [hji22] at H ⊢; exact H)
                              have hji22w : (IntKind.i64.wrap (x5_1 + 1)) = ji22 := (i64_w _).trans hji22
                              by_cases c23 : 0 ≤ (ji22)
                              · rw [if_pos c23] at H
                                have c23b0 := eq_true c23
                                have c23b1 : decide (0 ≤ (ji22)) = true := decide_eq_true c23
                                clear c23
                                by_cases c24 : (ji22) ≤ (x0_1.size : Int)
                                · rw [if_pos c24] at H
                                  have c24b0 := eq_true c24
                                  have c24b1 : decide ((ji22) ≤ (x0_1.size : Int)) = true := decide_eq_true c24
                                  clear c24
                                  by_cases c25 : 0 > 0
                                  · exact absurd c25 (by decide)
                                  · rw [if_neg c25] at H
                                    have c25b0 : decide (0 < 0) = false := decide_eq_false c25
                                    clear c25
                                    simp only [Option.some.injEq, Prod.mk.injEq] at H
                                    obtain ⟨rfl, rfl⟩ := H
                                    go_wp2
                                    iterate 3 (try (first | go_step3 | (simp only [Exit.noGoto_ret, Exit.noGoto_normal, Exit.noGoto_exit]; done) | simp only [Exit.noGoto_ret, Exit.noGoto_normal, Exit.noGoto_exit]); (try go_wp2))
                                    go_ret2
                                    exact ⟨by first | rfl | (simp; done) | (simp only [← hji22] <;> (first | rfl | simp)) | (simp [*]; done), dr⟩
                                · rw [if_neg c24] at H
                                  exact absurd H (by simp)
                              · rw [if_neg c23] at H
                                exact absurd H (by simp)
                            · replace c21 := Bool.eq_false_iff.mpr c21
                              subst c21
                              have H1 : (if (bt x0_1 x5_1) = 41 then (lex_comment.l0 kj18 x0_1 (wrap64 (x4_1 - 1)) (wrap64 (x5_1 + 1))) else ((lex_text.f (bt x0_1 x5_1)).bind fun t1072 => (if t1072 = true then (lex_comment.l0 kj18 x0_1 x4_1 (wrap64 (x5_1 + 1))) else (some ((⟨#[]⟩ : ByteArray), 3))))) = some (r1, r2) := by rw [if_neg (show ¬ (false = true) by decide)] at H; exact H
                              clear H
                              have H := H1
                              clear H1
                              by_cases c26 : (bt x0_1 x5_1) = 41
                              · rw [if_pos c26] at H
                                have c26b0 : ((bt x0_1 x5_1) == 41) = true := beq_iff_eq.mpr c26
                                have c26b1 : ((bt x0_1 x5_1) != 41) = false := bne_eq_false_iff_eq.mpr c26
                                clear c26
                                have H' := Aside0.mk H
                                clear H
                                go_wp2
                                iterate 3 (try (first | go_step3 | (simp only [Exit.noGoto_ret, Exit.noGoto_normal, Exit.noGoto_exit]; done) | simp only [Exit.noGoto_ret, Exit.noGoto_normal, Exit.noGoto_exit]); (try go_wp2))
                                go_roundg kj18
                                case measure => have := HK1.out; have := HJ14.out; have := HJ18.out; omega
                                case rel => exact ⟨(x0_1), (wrap64 (x4_1 - 1)), (wrap64 (x5_1 + 1)), eqv, eqv, eqv, H', ⟨by have := HK1.out; have := HJ14.out; have := HJ18.out; omega⟩, dr⟩
                              · rw [if_neg c26] at H
                                have c26b0 : ((bt x0_1 x5_1) == 41) = false := beq_eq_false_iff_ne.mpr c26
                                have c26b1 : ((bt x0_1 x5_1) != 41) = true := bne_iff_ne.mpr c26
                                replace H := Option.bind_eq_some_iff.mp H
                                obtain ⟨t1072, A270, H⟩ := H
                                replace H : (if t1072 = true then (lex_comment.l0 kj18 x0_1 x4_1 (wrap64 (x5_1 + 1))) else (some ((⟨#[]⟩ : ByteArray), 3))) = some (r1, r2) := H
                                have A27 := Aside0.mk A270
                                clear A270
                                by_cases c28 : t1072 = true
                                · subst c28
                                  have H1 : (lex_comment.l0 kj18 x0_1 x4_1 (wrap64 (x5_1 + 1))) = some (r1, r2) := by rw [if_pos rfl] at H; exact H
                                  clear H
                                  have H := H1
                                  clear H1
                                  have H' := Aside0.mk H
                                  clear H
                                  go_wp2_with (first | ((with_reducible refine gate_callee (f := 221) rfl ?_); refine goesM (some 66) Tryz.func221 #[.int .u8 (bt x0_1 x5_1)] ?_; (with_reducible refine (lex_text.calls (bt x0_1 x5_1) true _ A27.out).mono ?_); rintro e w' ⟨rfl, ⟨nd, rfl⟩⟩; refine ⟨_, rfl, ?_⟩))
                                  iterate 3 (try (first | go_step3 | (simp only [Exit.noGoto_ret, Exit.noGoto_normal, Exit.noGoto_exit]; done) | simp only [Exit.noGoto_ret, Exit.noGoto_normal, Exit.noGoto_exit]); (try go_wp2))
                                  go_roundg kj18
                                  case measure => have := HK1.out; have := HJ14.out; have := HJ18.out; omega
                                  case rel => exact ⟨(x0_1), (x4_1), (wrap64 (x5_1 + 1)), eqv, eqv, eqv, H', ⟨by have := HK1.out; have := HJ14.out; have := HJ18.out; omega⟩, dr⟩
                                · replace c28 := Bool.eq_false_iff.mpr c28
                                  subst c28
                                  have H1 : (some ((⟨#[]⟩ : ByteArray), 3)) = some (r1, r2) := by rw [if_neg (show ¬ (false = true) by decide)] at H; exact H
                                  clear H
                                  have H := H1
                                  clear H1
                                  simp only [Option.some.injEq, Prod.mk.injEq] at H
                                  obtain ⟨rfl, rfl⟩ := H
                                  go_wp2_with (first | ((with_reducible refine gate_callee (f := 221) rfl ?_); refine goesM (some 66) Tryz.func221 #[.int .u8 (bt x0_1 x5_1)] ?_; (with_reducible refine (lex_text.calls (bt x0_1 x5_1) false _ A27.out).mono ?_); rintro e w' ⟨rfl, ⟨nd, rfl⟩⟩; refine ⟨_, rfl, ?_⟩))
                                  iterate 3 (try (first | go_step3 | (simp only [Exit.noGoto_ret, Exit.noGoto_normal, Exit.noGoto_exit]; done) | simp only [Exit.noGoto_ret, Exit.noGoto_normal, Exit.noGoto_exit]); (try go_wp2))
                                  go_ret2
                                  exact ⟨eqv, dr⟩
          · rw [if_neg c6] at H
            exact absurd H (by simp)
        · rw [if_neg c3] at H
          exact absurd H (by simp)
      · rw [if_neg c2] at H
        have c2b0 : decide (x5_1 < (x0_1.size : Int)) = false := decide_eq_false c2
        clear c2
        by_cases c29 : x4_1 > 0
        · rw [if_pos c29] at H
          have c29b0 : decide (0 < x4_1) = true := decide_eq_true c29
          clear c29
          simp only [Option.some.injEq, Prod.mk.injEq] at H
          obtain ⟨rfl, rfl⟩ := H
          go_wp2
          iterate 3 (try (first | go_step3 | (simp only [Exit.noGoto_ret, Exit.noGoto_normal, Exit.noGoto_exit]; done) | simp only [Exit.noGoto_ret, Exit.noGoto_normal, Exit.noGoto_exit]); (try go_wp2))
          go_ret2
          exact ⟨eqv, dr⟩
        · rw [if_neg c29] at H
          have c29b0 : decide (0 < x4_1) = false := decide_eq_false c29
          clear c29
          simp only [Option.some.injEq, Prod.mk.injEq] at H
          obtain ⟨rfl, rfl⟩ := H
          go_wp2
          iterate 3 (try (first | go_step3 | (simp only [Exit.noGoto_ret, Exit.noGoto_normal, Exit.noGoto_exit]; done) | simp only [Exit.noGoto_ret, Exit.noGoto_normal, Exit.noGoto_exit]); (try go_wp2))
          go_ret2
          exact ⟨eqv, dr⟩
end Go.Proofs.YtjohcncekfcgpaaGreatDoor.P
end
section
namespace Go.Proofs.YtjohcncekfcgpaaGreatDoor.P
open Go.RowKit Go.Proofs.YtjohcncekfcgpaaGreatDoorW.PrintWords Go.Proofs.YtjohcncekfcgpaaGreatDoorW.PrintLast Go.Proofs.YtjohcncekfcgpaaGreatDoorW.PrintMore
attribute [local go_sem] max2_int min2_int max_two min_two max_three min_three max_four min_four
set_option linter.unusedVariables false
set_option linter.unusedSimpArgs false
def lex_quoted.l0 : Nat → ByteArray → List Int → Int → Option (Int × ByteArray × ByteArray × Int)
  | 0, _, _, _ => none
  | k + 1, x0, x5, x6 => if x6 < (x0.size : Int) then (if 0 ≤ x6 then (if x6 ≤ (x0.size : Int) then ((lex_fold.f (x0.extract (x6 : Int).toNat x0.size)).bind fun t1074 => (if t1074 = true then (lex_quoted.l0 k x0 x5 (wrap64 ((wrap64 (x6 + 1)) + 1))) else (if (bt x0 x6) = 92 then (if 0 ≤ (wrap64 (x6 + 1)) then (if (wrap64 (x6 + 1)) ≤ (x0.size : Int) then ((lex_escaped.f (x0.extract ((wrap64 (x6 + 1)) : Int).toNat x0.size)).bind fun t1075 => (if t1075 = 0 then (if (wrap64 (x6 + 1)) < (x0.size : Int) then (if x5.length < 140737488355328 then (lex_quoted.l0 k x0 (x5 ++ [bt x0 (wrap64 (x6 + 1))]) (wrap64 ((wrap64 (x6 + 1)) + 1))) else (none)) else (none)) else (some (0, (⟨#[]⟩ : ByteArray), (⟨#[]⟩ : ByteArray), t1075)))) else (none)) else (none)) else (if (bt x0 x6) = 34 then (if 0 ≤ (wrap64 (x6 + 1)) then (if (wrap64 (x6 + 1)) ≤ (x0.size : Int) then (some (2, strOfNums x5, x0.extract ((wrap64 (x6 + 1)) : Int).toNat x0.size, 0)) else (none)) else (none)) else ((lex_text.f (bt x0 x6)).bind fun t1079 => (if t1079 = true then (if x5.length < 140737488355328 then (lex_quoted.l0 k x0 (x5 ++ [bt x0 x6]) (wrap64 (x6 + 1))) else (none)) else (some (0, (⟨#[]⟩ : ByteArray), (⟨#[]⟩ : ByteArray), 3)))))))) else (none)) else (none)) else (some (0, (⟨#[]⟩ : ByteArray), (⟨#[]⟩ : ByteArray), 9))
def lex_quoted.f (k : Nat) (a0 : ByteArray) : Option (Int × ByteArray × ByteArray × Int) := lex_quoted.l0 k a0 ([] : List Int) 1
theorem lex_quoted.mono_l : ∀ k, (∀ y0 y1 y2, LeO (lex_quoted.l0 k y0 y1 y2) (lex_quoted.l0 (k + 1) y0 y1 y2))
  | 0 => fun _ _ _ r h => by simp [lex_quoted.l0] at h
  | k + 1 => by
    have ih0 := lex_quoted.mono_l k
    · intro y0 y1 y2
      unfold lex_quoted.l0
      repeat' first
      | (with_reducible exact ih0 _ _ _)
      | (with_reducible exact LeO.refl _)
      | (with_reducible exact LeO.none _)
      | (with_reducible refine LeO.ite ?_ ?_)
      | (with_reducible refine LeO.bind ?_ (fun _ => ?_))
      | exact ih0 _ _ _
      | exact LeO.none _
      | refine LeO.ite ?_ ?_
      | refine LeO.bind ?_ (fun _ => ?_)
theorem lex_quoted.mono : ∀ a0 k, LeO (lex_quoted.f k a0) (lex_quoted.f (k + 1) a0) := by
  intro a0 k
  have ih0 := lex_quoted.mono_l k
  unfold lex_quoted.f
  repeat' first
      | (with_reducible exact ih0 _ _ _)
      | (with_reducible exact LeO.refl _)
      | (with_reducible exact LeO.none _)
      | (with_reducible refine LeO.ite ?_ ?_)
      | (with_reducible refine LeO.bind ?_ (fun _ => ?_))
      | exact ih0 _ _ _
      | exact LeO.none _
      | refine LeO.ite ?_ ?_
      | refine LeO.bind ?_ (fun _ => ?_)
def lex_quoted.T16 : Bool × List (List Nat × List Nat) := (true, [([], []), ([0], [0]), ([1], [1]), ([], []), ([], []), ([4], [4]), ([3, 5], [3, 5]), ([2, 0, 1, 2], [2]), ([6, 7, 0, 1, 2, 3, 4, 5, 6, 7], [6]), ([8, 0, 1, 2, 3, 4, 5, 6, 7, 8], [])])
def lex_quoted.B16 : List Nat := [0, 1, 3, 0, 0, 16, 56, 7, 255, 511]
theorem lex_quoted.tab16 : rtab .any (opsOf Tryz.f251 16) = lex_quoted.T16 := by kernel_rfl
theorem lex_quoted.bits16 : waitsOk lex_quoted.T16.2 lex_quoted.B16 = true := by kernel_rfl
set_option maxHeartbeats 8000000 in
set_option maxRecDepth 100000 in
theorem lex_quoted.calls (k : Nat) (a0 : ByteArray) (r1 : Int) (r2 : ByteArray) (r3 : ByteArray) (r4 : Int) (w : World) (h : lex_quoted.f k a0 = some (r1, r2, r3, r4)) :
    Calls Tryz.prog 251 #[.string a0] w fun e w' => e = .returned (.tuple #[.agg #[.int .i64 r1, .string r2], .string r3, .int .i64 r4]) ∧ Below w.heap.size w w' := by
  have hu230 := Tryz.underlying230
  have HB := Aside0.mk (Below.refl w.heap.size w)
  have H : (lex_quoted.l0 k a0 ([] : List Int) 1) = some (r1, r2, r3, r4) := h
  clear h
  have H' := Aside0.mk H
  clear H
  go_enter Tryz.func251, Tryz.ntmps251
  go_wp2_with (first | ((with_reducible refine gate_dst (N := 2) rfl ?_); refine boxE 2 #[.int .i64 0, .string (⟨#[]⟩ : ByteArray)] 230 ?_; intro gb1073 hg w2 hbox hb; have n0_ := Aside0.mk (below_step bw hb); have n1_ := Aside0.mk (hbox); have n2_ := Aside0.mk ((bz hg : w.heap.size ≤ gb1073)); have n3_ := Aside0.mk ((bz hg : w.heap.size ≤ gb1073)); clear HB; have HB := n0_; have BK1073 := n1_; have GW1073 := n2_; have GE1073 := n3_; clear n0_ n1_ n2_ n3_; clear hb hbox hg))
  go_loopg [5, 6] k (fun kq v5 v6 w' => ∃ (x5_1 : List Int) (x6_1 : Int) (x1074000_1 : Int) (x1074001_1 : ByteArray), v6 = .int .i64 x6_1 ∧ Aside0 (lex_quoted.l0 kq a0 x5_1 x6_1 = some (r1, r2, r3, r4)) ∧ Aside0 (kq ≤ k) ∧ Aside0 (Kd.R (Kd.int .u8) 5 w' w.heap.size (fun _ => True) v5 x5_1) ∧ Aside0 (w'.heap[gb1073]? = some (.cells #[.int .i64 x1074000_1, .string x1074001_1] 230 (0, 0))) ∧ Aside0 (Below w.heap.size w w'))
  case atStart => exact ⟨(([] : List Int)), (1), (0), ((⟨#[]⟩ : ByteArray)), eqv, H', ⟨Nat.le_refl _⟩, ⟨by first | exact Kd.R_nil _ _ _ _ _ | exact Kd.N_nil _ _ _ _ _ | exact Kd.V_nil _ _ _ _ _ | exact Kd.Q_nil _ _ _ _ _ | exact Kd.S_nil _ _ _ _ _⟩, ⟨bk⟩, ⟨bw⟩⟩
  case round =>
    clear H'
    try clear c2
    try clear p2
    obtain ⟨x5_1, x6_1, x1074000_1, x1074001_1, rfl, HA, HK1, HO_5, BK1073, HB⟩ := hrel
    cases gk with
    | zero => exact absurd HA.out (by simp [lex_quoted.l0])
    | succ k1 =>
      have H := HA.out
      clear HA
      simp only [lex_quoted.l0] at H
      by_cases c3 : x6_1 < (a0.size : Int)
      · rw [if_pos c3] at H
        have c3b0 : decide (x6_1 < (a0.size : Int)) = true := decide_eq_true c3
        clear c3
        by_cases c4 : 0 ≤ x6_1
        · rw [if_pos c4] at H
          have c4b0 : decide (0 ≤ x6_1) = true := decide_eq_true c4
          clear c4
          have c6b0 := eq_true (of_decide_eq_true asm : 0 ≤ x6_1)
          by_cases c7 : x6_1 ≤ (a0.size : Int)
          · rw [if_pos c7] at H
            have c7b0 := eq_true c7
            have c7b1 : decide (x6_1 ≤ (a0.size : Int)) = true := decide_eq_true c7
            clear c7
            replace H := Option.bind_eq_some_iff.mp H
            obtain ⟨t1074, A80, H⟩ := H
            replace H : (if t1074 = true then (lex_quoted.l0 k1 a0 x5_1 (wrap64 ((wrap64 (x6_1 + 1)) + 1))) else (if (bt a0 x6_1) = 92 then (if 0 ≤ (wrap64 (x6_1 + 1)) then (if (wrap64 (x6_1 + 1)) ≤ (a0.size : Int) then ((lex_escaped.f (a0.extract ((wrap64 (x6_1 + 1)) : Int).toNat a0.size)).bind fun t1075 => (if t1075 = 0 then (if (wrap64 (x6_1 + 1)) < (a0.size : Int) then (if x5_1.length < 140737488355328 then (lex_quoted.l0 k1 a0 (x5_1 ++ [bt a0 (wrap64 (x6_1 + 1))]) (wrap64 ((wrap64 (x6_1 + 1)) + 1))) else (none)) else (none)) else (some (0, (⟨#[]⟩ : ByteArray), (⟨#[]⟩ : ByteArray), t1075)))) else (none)) else (none)) else (if (bt a0 x6_1) = 34 then (if 0 ≤ (wrap64 (x6_1 + 1)) then (if (wrap64 (x6_1 + 1)) ≤ (a0.size : Int) then (some (2, strOfNums x5_1, a0.extract ((wrap64 (x6_1 + 1)) : Int).toNat a0.size, 0)) else (none)) else (none)) else ((lex_text.f (bt a0 x6_1)).bind fun t1079 => (if t1079 = true then (if x5_1.length < 140737488355328 then (lex_quoted.l0 k1 a0 (x5_1 ++ [bt a0 x6_1]) (wrap64 (x6_1 + 1))) else (none)) else (some (0, (⟨#[]⟩ : ByteArray), (⟨#[]⟩ : ByteArray), 3))))))) = some (r1, r2, r3, r4) := H
            have A8 := Aside0.mk A80
            clear A80
            by_cases c9 : t1074 = true
            · subst c9
              have H1 : (lex_quoted.l0 k1 a0 x5_1 (wrap64 ((wrap64 (x6_1 + 1)) + 1))) = some (r1, r2, r3, r4) := by rw [if_pos rfl] at H; exact H
              clear H
              have H := H1
              clear H1
              have H' := Aside0.mk H
              clear H
              have p5 : 0 ≤ (x6_1 : Int) := of_decide_eq_true asm
              have q5 : x6_1 < (a0.size : Int) := of_decide_eq_true asm
              have hx5 := bt_at a0 x6_1
              replace p5 := eq_true p5
              replace q5 := eq_true q5
              go_wp2_with (first | ((with_reducible refine gate_callee (f := 249) rfl ?_); refine goesM (some 26) Tryz.func249 #[.string (a0.extract (x6_1 : Int).toNat a0.size)] ?_; (with_reducible refine (lex_fold.calls (a0.extract (x6_1 : Int).toNat a0.size) true _ A8.out).mono ?_); rintro e w' ⟨rfl, ⟨nd, rfl⟩⟩; refine ⟨_, rfl, ?_⟩))
              go_roundg k1
              case measure => have := HK1.out; omega
              case rel => exact ⟨(x5_1), (wrap64 ((wrap64 (x6_1 + 1)) + 1)), (x1074000_1), (x1074001_1), eqv, H', ⟨by have := HK1.out; omega⟩, ⟨kr HO_5⟩, ⟨bk⟩, ⟨bw⟩⟩
            · replace c9 := Bool.eq_false_iff.mpr c9
              subst c9
              have H1 : (if (bt a0 x6_1) = 92 then (if 0 ≤ (wrap64 (x6_1 + 1)) then (if (wrap64 (x6_1 + 1)) ≤ (a0.size : Int) then ((lex_escaped.f (a0.extract ((wrap64 (x6_1 + 1)) : Int).toNat a0.size)).bind fun t1075 => (if t1075 = 0 then (if (wrap64 (x6_1 + 1)) < (a0.size : Int) then (if x5_1.length < 140737488355328 then (lex_quoted.l0 k1 a0 (x5_1 ++ [bt a0 (wrap64 (x6_1 + 1))]) (wrap64 ((wrap64 (x6_1 + 1)) + 1))) else (none)) else (none)) else (some (0, (⟨#[]⟩ : ByteArray), (⟨#[]⟩ : ByteArray), t1075)))) else (none)) else (none)) else (if (bt a0 x6_1) = 34 then (if 0 ≤ (wrap64 (x6_1 + 1)) then (if (wrap64 (x6_1 + 1)) ≤ (a0.size : Int) then (some (2, strOfNums x5_1, a0.extract ((wrap64 (x6_1 + 1)) : Int).toNat a0.size, 0)) else (none)) else (none)) else ((lex_text.f (bt a0 x6_1)).bind fun t1079 => (if t1079 = true then (if x5_1.length < 140737488355328 then (lex_quoted.l0 k1 a0 (x5_1 ++ [bt a0 x6_1]) (wrap64 (x6_1 + 1))) else (none)) else (some (0, (⟨#[]⟩ : ByteArray), (⟨#[]⟩ : ByteArray), 3)))))) = some (r1, r2, r3, r4) := by rw [if_neg (show ¬ (false = true) by decide)] at H; exact H
              clear H
              have H := H1
              clear H1
              by_cases c10 : (bt a0 x6_1) = 92
              · rw [if_pos c10] at H
                have c10b0 : ((bt a0 x6_1) == 92) = true := beq_iff_eq.mpr c10
                have c10b1 : ((bt a0 x6_1) != 92) = false := bne_eq_false_iff_eq.mpr c10
                clear c10
                obtain ⟨ji11, hji11⟩ : ∃ j_ : Int, (wrap64 (x6_1 + 1)) = j_ := ⟨_, rfl⟩
                replace H : (if 0 ≤ (ji11) then (if (ji11) ≤ (a0.size : Int) then ((lex_escaped.f (a0.extract ((ji11) : Int).toNat a0.size)).bind fun t1075 => (if t1075 = 0 then (if (ji11) < (a0.size : Int) then (if x5_1.length < 140737488355328 then (lex_quoted.l0 k1 a0 (x5_1 ++ [bt a0 (ji11)]) (wrap64 ((ji11) + 1))) else (none)) else (none)) else (some (0, (⟨#[]⟩ : ByteArray), (⟨#[]⟩ : ByteArray), t1075)))) else (none)) else (none)) = some (r1, r2, r3, r4) := by first | (rw [hji11] at H; exact H) | (simp only [hji11] at H ⊢; exact H)
                (try rw [hji11] at A8)
                have hji11w : (IntKind.i64.wrap (x6_1 + 1)) = ji11 := (i64_w _).trans hji11
                by_cases c12 : 0 ≤ (ji11)
                · rw [if_pos c12] at H
                  have c12b0 := eq_true c12
                  have c12b1 : decide (0 ≤ (ji11)) = true := decide_eq_true c12
                  clear c12
                  by_cases c13 : (ji11) ≤ (a0.size : Int)
                  · rw [if_pos c13] at H
                    have c13b0 := eq_true c13
                    have c13b1 : decide ((ji11) ≤ (a0.size : Int)) = true := decide_eq_true c13
                    clear c13
                    replace H := Option.bind_eq_some_iff.mp H
                    obtain ⟨t1075, A140, H⟩ := H
                    replace H : (if t1075 = 0 then (if (ji11) < (a0.size : Int) then (if x5_1.length < 140737488355328 then (lex_quoted.l0 k1 a0 (x5_1 ++ [bt a0 (ji11)]) (wrap64 ((ji11) + 1))) else (none)) else (none)) else (some (0, (⟨#[]⟩ : ByteArray), (⟨#[]⟩ : ByteArray), t1075))) = some (r1, r2, r3, r4) := H
                    have A14 := Aside0.mk A140
                    clear A140
                    by_cases c15 : t1075 = 0
                    · rw [if_pos c15] at H
                      have c15b0 : (t1075 == 0) = true := beq_iff_eq.mpr c15
                      have c15b1 : (t1075 != 0) = false := bne_eq_false_iff_eq.mpr c15
                      clear c15
                      by_cases c16 : (ji11) < (a0.size : Int)
                      · rw [if_pos c16] at H
                        have c16b0 : decide ((ji11) < (a0.size : Int)) = true := decide_eq_true c16
                        clear c16
                        by_cases c18 : x5_1.length < 140737488355328
                        · rw [if_pos c18] at H
                          have LMc18 := Aside0.mk c18
                          clear c18
                          obtain ⟨y1076, hy1076⟩ : ∃ y_ : List Int, y_ = (x5_1 ++ [bt a0 (ji11)]) := ⟨_, rfl⟩
                          replace H : (lex_quoted.l0 k1 a0 y1076 (wrap64 ((ji11) + 1))) = some (r1, r2, r3, r4) := by first | (rw [hy1076]; with_reducible exact H) | (have H2_ := (Option.bind_some _ _).symm.trans H; rw [hy1076]; with_reducible exact H2_) | (have H2_ := (Option.bind_some _ _).symm.trans H; with_reducible exact H2_) | with_reducible exact H | (rw [hy1076]; exact H) | exact H
                          have Ny1076 := Aside0.mk hy1076
                          clear hy1076
                          have H' := Aside0.mk H
                          clear H
                          have p5 : 0 ≤ (x6_1 : Int) := of_decide_eq_true asm
                          have q5 : x6_1 < (a0.size : Int) := of_decide_eq_true asm
                          have hx5 := bt_at a0 x6_1
                          replace p5 := eq_true p5
                          replace q5 := eq_true q5
                          go_wp2_with (first | ((with_reducible refine gate_callee (f := 249) rfl ?_); refine goesM (some 26) Tryz.func249 #[.string (a0.extract (x6_1 : Int).toNat a0.size)] ?_; (with_reducible refine (lex_fold.calls (a0.extract (x6_1 : Int).toNat a0.size) false _ A8.out).mono ?_); rintro e w' ⟨rfl, ⟨nd, rfl⟩⟩; refine ⟨_, rfl, ?_⟩) | ((with_reducible refine gate_callee (f := 265) rfl ?_); refine goesL_ (some 37) rfl rfl Tryz.func265 (by kernel_rfl) rfl #[.string (a0.extract ((ji11) : Int).toNat a0.size)] rfl (by (try simp only [List.map_toArray, List.map_cons, List.map_nil]); first | done | (simp only [hji11]; rfl) | rfl | (simp only [List.length_drop, List.length_take]; rfl)) ?_; (with_reducible refine (lex_escaped.calls (a0.extract ((ji11) : Int).toNat a0.size) t1075 _ A14.out).mono ?_); rintro e w' ⟨rfl, ⟨nd, rfl⟩⟩; refine ⟨_, rfl, ?_⟩; have p17 : 0 ≤ ((ji11) : Int) := of_decide_eq_true asm; have q17 : (ji11) < (a0.size : Int) := of_decide_eq_true asm; have hx17 := bt_at a0 (ji11); replace p17 := eq_true p17; replace q17 := eq_true q17) | ((with_reducible refine gate_builtin (b := .append) (xs := #[.tmp 42, .tmp 46]) rfl ?_); at_builtin; refine Kd.R_append (Kd.int .u8) (w0 := w) w.heap.size rfl (.tmp 42) (.tmp 46) 50 5 (.int .u8 0) 1 rfl Tryz.underlying50 info5 rfl (by decide) (by omega) u5 x5_1 (bt a0 (ji11)) [.int .u8 (bt a0 (ji11))] (fun _ => True) (fun _ => False) rfl rfl ?aP (fun _ hk => hk.elim) ?aF ?aO ?aB ?aS ?aL ?_; (case aP => exact rfl); (case aB => exact bw); (case aF => exact (fun _ _ => trivial)); (case aO => exact (kr HO_5)); (case aS => exact (below_size bw)); (case aL => have := LMc18.out; omega); intro v1077 w19 ho hb hg hat; rw [← Ny1076.out] at ho; have n0_ := Aside0.mk (blk_grown (g := gb1073) (o := .cells #[.int .i64 x1074000_1, .string x1074001_1] 230 (0, 0)) bk hg (Kd.R_ne HO_5.out BK1073.out (by decide))); have n1_ := Aside0.mk (hb); have n2_ := Aside0.mk (ho); clear BK1073; clear HB; clear HO_5; have BK1073 := n0_; have HB := n1_; have HO1078 := n2_; clear n0_ n1_ n2_; clear ho hb hg hat))
                          go_roundg k1
                          case measure => have := HK1.out; omega
                          case rel => exact ⟨(y1076), (wrap64 ((ji11) + 1)), (x1074000_1), (x1074001_1), (by first | rfl | (simp; done) | (simp only [← hji11] <;> (first | rfl | simp)) | (simp [*]; done)), H', ⟨by have := HK1.out; omega⟩, ⟨kr HO1078⟩, ⟨bk⟩, ⟨bw⟩⟩
                        · rw [if_neg c18] at H
                          exact absurd H (by simp)
                      · rw [if_neg c16] at H
                        exact absurd H (by simp)
                    · rw [if_neg c15] at H
                      have c15b0 : (t1075 == 0) = false := beq_eq_false_iff_ne.mpr c15
                      have c15b1 : (t1075 != 0) = true := bne_iff_ne.mpr c15
                      simp only [Option.some.injEq, Prod.mk.injEq] at H
                      obtain ⟨rfl, rfl, rfl, rfl⟩ := H
                      have p5 : 0 ≤ (x6_1 : Int) := of_decide_eq_true asm
                      have q5 : x6_1 < (a0.size : Int) := of_decide_eq_true asm
                      have hx5 := bt_at a0 x6_1
                      replace p5 := eq_true p5
                      replace q5 := eq_true q5
                      go_wp2_with (first | ((with_reducible refine gate_callee (f := 249) rfl ?_); refine goesM (some 26) Tryz.func249 #[.string (a0.extract (x6_1 : Int).toNat a0.size)] ?_; (with_reducible refine (lex_fold.calls (a0.extract (x6_1 : Int).toNat a0.size) false _ A8.out).mono ?_); rintro e w' ⟨rfl, ⟨nd, rfl⟩⟩; refine ⟨_, rfl, ?_⟩; (try (rw [drewN_self wr]; generalize hq_ : World.drewN wr _ = wr; have n0_ : Aside0 (Kd.R (Kd.int .u8) 5 wr w.heap.size (fun _ => True) u5 x5_1) := ⟨by rw [← hq_]; exact (kr HO_5)⟩; have n1_ : Aside0 (wr.heap[gb1073]? = some (.cells #[.int .i64 x1074000_1, .string x1074001_1] 230 (0, 0))) := ⟨by rw [← hq_]; exact bk⟩; have n2_ : Aside0 (Below w.heap.size w wr) := ⟨by rw [← hq_]; exact bw⟩; clear HO_5 BK1073 HB hq_; have HO_5 := n0_; have BK1073 := n1_; have HB := n2_; clear n0_ n1_ n2_))) | ((with_reducible refine gate_callee (f := 265) rfl ?_); refine goesL_ (some 37) rfl rfl Tryz.func265 (by kernel_rfl) rfl #[.string (a0.extract ((ji11) : Int).toNat a0.size)] rfl (by (try simp only [List.map_toArray, List.map_cons, List.map_nil]); first | done | (simp only [hji11]; rfl) | rfl | (simp only [List.length_drop, List.length_take]; rfl)) ?_; (with_reducible refine (lex_escaped.calls (a0.extract ((ji11) : Int).toNat a0.size) t1075 _ A14.out).mono ?_); rintro e w' ⟨rfl, ⟨nd, rfl⟩⟩; refine ⟨_, rfl, ?_⟩; (try (rw [drewN_self wr]; generalize hq_ : World.drewN wr _ = wr; have n0_ : Aside0 (Kd.R (Kd.int .u8) 5 wr w.heap.size (fun _ => True) u5 x5_1) := ⟨by rw [← hq_]; exact (kr HO_5)⟩; have n1_ : Aside0 (wr.heap[gb1073]? = some (.cells #[.int .i64 x1074000_1, .string x1074001_1] 230 (0, 0))) := ⟨by rw [← hq_]; exact bk⟩; have n2_ : Aside0 (Below w.heap.size w wr) := ⟨by rw [← hq_]; exact bw⟩; clear HO_5 BK1073 HB hq_; have HO_5 := n0_; have BK1073 := n1_; have HB := n2_; clear n0_ n1_ n2_)); have hcz20_0 : wr.cell? ⟨gb1073, 0, none⟩ = some (.int .i64 x1074000_1) := (blk_cell BK1073.out 0).trans rfl; have hcz20_1 : wr.cell? ⟨gb1073, 1, none⟩ = some (.string x1074001_1) := (blk_cell BK1073.out 1).trans rfl; have hfz20_0 := blk_frozen BK1073.out 0; have hfz20_1 := blk_frozen BK1073.out 1))
                      refine bodyPost_ret (results_ctt rfl _ _ gb1073 230 #[.int .i64 0, .string (⟨#[]⟩ : ByteArray)] (0, 0) _ rfl (by (with_reducible repeat (first | refine blk_drewN ?_ _ | refine blk_drew ?_ | refine blk_alloc ?_ _)); refine blk_put (cs := #[.int .i64 0, .string x1074001_1]) ?_ 1 _ rfl; (with_reducible repeat (first | refine blk_drewN ?_ _ | refine blk_drew ?_ | refine blk_alloc ?_ _)); refine blk_put (cs := #[.int .i64 x1074000_1, .string x1074001_1]) ?_ 0 _ rfl; (with_reducible repeat (first | refine blk_drewN ?_ _ | refine blk_drew ?_ | refine blk_alloc ?_ _)); exact BK1073.out) Tryz.underlying230 rfl (by kernel_rfl)) rfl ?_
                      exact ⟨by first | rfl | (simp [errW_none, errW_some] <;> rfl) | (simp only [← hji11]; first | rfl | (simp [errW_none, errW_some] <;> rfl)) | (simp [*, errW_none, errW_some] <;> rfl), bw⟩
                  · rw [if_neg c13] at H
                    exact absurd H (by simp)
                · rw [if_neg c12] at H
                  exact absurd H (by simp)
              · rw [if_neg c10] at H
                have c10b0 : ((bt a0 x6_1) == 92) = false := beq_eq_false_iff_ne.mpr c10
                have c10b1 : ((bt a0 x6_1) != 92) = true := bne_iff_ne.mpr c10
                by_cases c21 : (bt a0 x6_1) = 34
                · rw [if_pos c21] at H
                  have c21b0 : ((bt a0 x6_1) == 34) = true := beq_iff_eq.mpr c21
                  have c21b1 : ((bt a0 x6_1) != 34) = false := bne_eq_false_iff_eq.mpr c21
                  clear c21
                  obtain ⟨ji22, hji22⟩ : ∃ j_ : Int, (wrap64 (x6_1 + 1)) = j_ := ⟨_, rfl⟩
                  replace H : (if 0 ≤ (ji22) then (if (ji22) ≤ (a0.size : Int) then (some (2, strOfNums x5_1, a0.extract ((ji22) : Int).toNat a0.size, 0)) else (none)) else (none)) = some (r1, r2, r3, r4) := by first | (rw [hji22] at H; exact H) | (simp only [hji22] at H ⊢; exact H)
                  (try rw [hji22] at A8)
                  have hji22w : (IntKind.i64.wrap (x6_1 + 1)) = ji22 := (i64_w _).trans hji22
                  by_cases c23 : 0 ≤ (ji22)
                  · rw [if_pos c23] at H
                    have c23b0 := eq_true c23
                    have c23b1 : decide (0 ≤ (ji22)) = true := decide_eq_true c23
                    clear c23
                    by_cases c24 : (ji22) ≤ (a0.size : Int)
                    · rw [if_pos c24] at H
                      have c24b0 := eq_true c24
                      have c24b1 : decide ((ji22) ≤ (a0.size : Int)) = true := decide_eq_true c24
                      clear c24
                      simp only [Option.some.injEq, Prod.mk.injEq] at H
                      obtain ⟨rfl, rfl, rfl, rfl⟩ := H
                      have p5 : 0 ≤ (x6_1 : Int) := of_decide_eq_true asm
                      have q5 : x6_1 < (a0.size : Int) := of_decide_eq_true asm
                      have hx5 := bt_at a0 x6_1
                      replace p5 := eq_true p5
                      replace q5 := eq_true q5
                      try go_wp2_with (first | ((with_reducible refine gate_callee (f := 249) rfl ?_); refine goesM (some 26) Tryz.func249 #[.string (a0.extract (x6_1 : Int).toNat a0.size)] ?_; (with_reducible refine (lex_fold.calls (a0.extract (x6_1 : Int).toNat a0.size) false _ A8.out).mono ?_); rintro e w' ⟨rfl, ⟨nd, rfl⟩⟩; refine ⟨_, rfl, ?_⟩; (try (rw [drewN_self wr]; generalize hq_ : World.drewN wr _ = wr; have n0_ : Aside0 (Kd.R (Kd.int .u8) 5 wr w.heap.size (fun _ => True) u5 x5_1) := ⟨by rw [← hq_]; exact (kr HO_5)⟩; have n1_ : Aside0 (wr.heap[gb1073]? = some (.cells #[.int .i64 x1074000_1, .string x1074001_1] 230 (0, 0))) := ⟨by rw [← hq_]; exact bk⟩; have n2_ : Aside0 (Below w.heap.size w wr) := ⟨by rw [← hq_]; exact bw⟩; clear HO_5 BK1073 HB hq_; have HO_5 := n0_; have BK1073 := n1_; have HB := n2_; clear n0_ n1_ n2_))))
                      have n0_ := Aside0.mk (Kd.R_drew HO_5.out)
                      have n1_ := Aside0.mk (blk_drew BK1073.out)
                      have n2_ := Aside0.mk (below_drew1 HB.out)
                      clear HO_5
                      clear BK1073
                      clear HB
                      have HO_5 := n0_
                      have BK1073 := n1_
                      have HB := n2_
                      clear n0_ n1_ n2_
                      refine start_ (n := 10) (S := fun w' => w'.ownsRow w.heap.size 5 1 u5 x5_1.length (nums .u8 x5_1)) (ds := [7]) #[false, false, false, false, false, false, false, false, false, false] (by kernel_rfl) rfl rfl (Kd.own_of_R HO_5.out) (fun hHeld => ?_); refine with_tabW lex_quoted.tab16 lex_quoted.bits16 (fun HT_ HW_ => ?_)
                      generalize wr.drew = w25 at HO_5 BK1073 HB hHeld ⊢
                      refine pure_ (i := 0) (N := some 51) (v := ?_) (a' := ?_) #[true, false, false, false, false, false, false, false, false, false] rfl rfl (any_of HT_.out (by kernel_rfl)) (fun _ _ _ h => h) (Or.inl ⟨by rfl, ?_⟩) ?_ ?_
                      rotate_left
                      · intro w'
                        go_simp
                        with_reducible rfl
                      rotate_left
                      · simp only [Act.put, List.setIfInBounds_toArray, List.set_cons_zero, List.set_cons_succ, i64_w, i32_w]
                        rfl
                      refine take_ (i := 1) (N := some 52) (v := ?_) (a' := ?_) #[true, true, false, false, false, false, false, false, false, false] rfl rfl (by kernel_rfl) (fun _ _ _ h => h) (Or.inl ⟨by rfl, ?_⟩) hHeld ?_ ?_
                      rotate_left
                      · intro w' s0_
                        have hcv_ := own_string (P := Tryz.prog) Tryz.underlying50 Tryz.underlying5 Tryz.underlying9 s0_
                        go_simp
                        with_reducible rfl
                      rotate_left
                      · simp only [Act.put, List.setIfInBounds_toArray, List.set_cons_zero, List.set_cons_succ, i64_w, i32_w]
                        rfl
                      refine pure_ (i := 2) (N := some 53) (v := ?_) (a' := ?_) #[true, true, true, false, false, false, false, false, false, false] rfl rfl (any_of HT_.out (by kernel_rfl)) (fun _ _ _ h => h) (Or.inl ⟨by rfl, ?_⟩) ?_ ?_
                      rotate_left
                      · intro w'
                        go_simp
                        with_reducible rfl
                      rotate_left
                      · simp only [Act.put, List.setIfInBounds_toArray, List.set_cons_zero, List.set_cons_succ, i64_w, i32_w]
                        rfl
                      refine pure_ (i := 3) (N := some 54) (v := ?_) (a' := ?_) #[true, true, true, true, false, false, false, false, false, false] rfl rfl (any_of HT_.out (by kernel_rfl)) (fun _ _ _ h => h) (Or.inl ⟨by rfl, ?_⟩) ?_ ?_
                      rotate_left
                      · intro w'
                        go_simp
                        with_reducible rfl
                      rotate_left
                      · simp only [Act.put, List.setIfInBounds_toArray, List.set_cons_zero, List.set_cons_succ, i64_w, i32_w]
                        rfl
                      refine pure_ (i := 4) (N := some 55) (v := ?_) (a' := ?_) #[true, true, true, true, true, false, false, false, false, false] rfl rfl (any_of HT_.out (by kernel_rfl)) (fun _ _ _ h => h) (Or.inl ⟨by rfl, ?_⟩) ?_ ?_
                      rotate_left
                      · intro w'
                        go_simp
                        with_reducible rfl
                      rotate_left
                      · simp only [Act.put, List.setIfInBounds_toArray, List.set_cons_zero, List.set_cons_succ, i64_w, i32_w]
                        rfl
                      refine pure_ (i := 5) (N := some 56) (v := ?_) (a' := ?_) #[true, true, true, true, true, true, false, false, false, false] rfl rfl (any_of HT_.out (by kernel_rfl)) (fun _ _ _ h => h) (Or.inl ⟨by rfl, ?_⟩) ?_ ?_
                      rotate_left
                      · intro w'
                        go_simp
                        with_reducible rfl
                      rotate_left
                      · simp only [Act.put, List.setIfInBounds_toArray, List.set_cons_zero, List.set_cons_succ, i64_w, i32_w]
                        rfl
                      refine pure_ (i := 6) (N := some 57) (v := ?_) (a' := ?_) #[true, true, true, true, true, true, true, false, false, false] rfl rfl (any_of HT_.out (by kernel_rfl)) (fun _ _ _ h => h) (Or.inl ⟨by rfl, ?_⟩) ?_ ?_
                      rotate_left
                      · intro w'
                        go_simp
                        with_reducible rfl
                      rotate_left
                      · simp only [Act.put, List.setIfInBounds_toArray, List.set_cons_zero, List.set_cons_succ, i64_w, i32_w]
                        rfl
                      refine last_ (i := 7) (N := none) #[true, true, true, true, true, true, true, true, false, false] rfl rfl (one_of HT_.out (by kernel_rfl)) (by decide) (fun K hK => ?_)
                      have hs27 : w25.cell? ⟨gb1073, 0, none⟩ = some (.int .i64 x1074000_1) := (blk_cell BK1073.out 0).trans rfl
                      have hfs27 := blk_frozen BK1073.out 0
                      have hs28 : w25.cell? ⟨gb1073, 1, none⟩ = some (.string x1074001_1) := (blk_cell BK1073.out 1).trans rfl
                      have hfs28 := blk_frozen BK1073.out 1
                      refine skip_ (w1 := ?_) (by rfl) rfl ?_ ?_
                      rotate_left
                      · go_simp
                        rfl
                      refine hK.out _ _ ?_
                      clear hK K
                      refine pure_ (i := 8) (N := some 3) (v := ?_) (a' := ?_) #[true, true, true, true, true, true, true, true, true, false] rfl rfl (any_of HT_.out (by kernel_rfl)) (fun _ _ _ h => h) (Or.inl ⟨by rfl, ?_⟩) ?_ ?_
                      rotate_left
                      · intro w'
                        go_simp
                        with_reducible rfl
                      rotate_left
                      · simp only [Act.put, List.setIfInBounds_toArray, List.set_cons_zero, List.set_cons_succ, i64_w, i32_w]
                        rfl
                      refine pure_ (i := 9) (N := some 4) (v := ?_) (a' := ?_) #[true, true, true, true, true, true, true, true, true, true] rfl rfl (any_of HT_.out (by kernel_rfl)) (fun _ _ _ h => h) (Or.inl ⟨by rfl, ?_⟩) ?_ ?_
                      rotate_left
                      · intro w'
                        go_simp
                        with_reducible rfl
                      rotate_left
                      · simp only [Act.put, List.setIfInBounds_toArray, List.set_cons_zero, List.set_cons_succ, i64_w, i32_w]
                        rfl
                      refine done_ (done_of HT_.out (by kernel_rfl)) ?_
                      try go_wp2
                      refine bodyPost_ret (results_ctt rfl _ _ gb1073 230 #[.int .i64 2, .string (strOfNums x5_1)] (0, 0) _ rfl (by (with_reducible repeat (first | refine blk_drewN ?_ _ | refine blk_drew ?_ | refine blk_alloc ?_ _)); refine blk_put (cs := #[.int .i64 2, .string x1074001_1]) ?_ 1 _ rfl; (with_reducible repeat (first | refine blk_drewN ?_ _ | refine blk_drew ?_ | refine blk_alloc ?_ _)); refine blk_put (cs := #[.int .i64 x1074000_1, .string x1074001_1]) ?_ 0 _ rfl; (with_reducible repeat (first | refine blk_drewN ?_ _ | refine blk_drew ?_ | refine blk_alloc ?_ _)); exact BK1073.out) Tryz.underlying230 rfl (by kernel_rfl)) rfl ?_
                      exact ⟨by first | rfl | (simp [errW_none, errW_some] <;> rfl) | (simp only [← hji22]; first | rfl | (simp [errW_none, errW_some] <;> rfl)) | (simp [*, errW_none, errW_some] <;> rfl), bw⟩
                    · rw [if_neg c24] at H
                      exact absurd H (by simp)
                  · rw [if_neg c23] at H
                    exact absurd H (by simp)
                · rw [if_neg c21] at H
                  have c21b0 : ((bt a0 x6_1) == 34) = false := beq_eq_false_iff_ne.mpr c21
                  have c21b1 : ((bt a0 x6_1) != 34) = true := bne_iff_ne.mpr c21
                  replace H := Option.bind_eq_some_iff.mp H
                  obtain ⟨t1079, A290, H⟩ := H
                  replace H : (if t1079 = true then (if x5_1.length < 140737488355328 then (lex_quoted.l0 k1 a0 (x5_1 ++ [bt a0 x6_1]) (wrap64 (x6_1 + 1))) else (none)) else (some (0, (⟨#[]⟩ : ByteArray), (⟨#[]⟩ : ByteArray), 3))) = some (r1, r2, r3, r4) := H
                  have A29 := Aside0.mk A290
                  clear A290
                  by_cases c30 : t1079 = true
                  · subst c30
                    have H1 : (if x5_1.length < 140737488355328 then (lex_quoted.l0 k1 a0 (x5_1 ++ [bt a0 x6_1]) (wrap64 (x6_1 + 1))) else (none)) = some (r1, r2, r3, r4) := by rw [if_pos rfl] at H; exact H
                    clear H
                    have H := H1
                    clear H1
                    by_cases c31 : x5_1.length < 140737488355328
                    · rw [if_pos c31] at H
                      have LMc31 := Aside0.mk c31
                      clear c31
                      obtain ⟨y1080, hy1080⟩ : ∃ y_ : List Int, y_ = (x5_1 ++ [bt a0 x6_1]) := ⟨_, rfl⟩
                      replace H : (lex_quoted.l0 k1 a0 y1080 (wrap64 (x6_1 + 1))) = some (r1, r2, r3, r4) := by first | (rw [hy1080]; with_reducible exact H) | (have H2_ := (Option.bind_some _ _).symm.trans H; rw [hy1080]; with_reducible exact H2_) | (have H2_ := (Option.bind_some _ _).symm.trans H; with_reducible exact H2_) | with_reducible exact H | (rw [hy1080]; exact H) | exact H
                      have Ny1080 := Aside0.mk hy1080
                      clear hy1080
                      have H' := Aside0.mk H
                      clear H
                      have p5 : 0 ≤ (x6_1 : Int) := of_decide_eq_true asm
                      have q5 : x6_1 < (a0.size : Int) := of_decide_eq_true asm
                      have hx5 := bt_at a0 x6_1
                      replace p5 := eq_true p5
                      replace q5 := eq_true q5
                      go_wp2_with (first | ((with_reducible refine gate_callee (f := 249) rfl ?_); refine goesM (some 26) Tryz.func249 #[.string (a0.extract (x6_1 : Int).toNat a0.size)] ?_; (with_reducible refine (lex_fold.calls (a0.extract (x6_1 : Int).toNat a0.size) false _ A8.out).mono ?_); rintro e w' ⟨rfl, ⟨nd, rfl⟩⟩; refine ⟨_, rfl, ?_⟩) | ((with_reducible refine gate_callee (f := 221) rfl ?_); refine goesM (some 60) Tryz.func221 #[.int .u8 (bt a0 x6_1)] ?_; (with_reducible refine (lex_text.calls (bt a0 x6_1) true _ A29.out).mono ?_); rintro e w' ⟨rfl, ⟨nd, rfl⟩⟩; refine ⟨_, rfl, ?_⟩) | ((with_reducible refine gate_builtin (b := .append) (xs := #[.tmp 18, .tmp 20]) rfl ?_); at_builtin; refine Kd.R_append (Kd.int .u8) (w0 := w) w.heap.size rfl (.tmp 18) (.tmp 20) 50 5 (.int .u8 0) 1 rfl Tryz.underlying50 info5 rfl (by decide) (by omega) u5 x5_1 (bt a0 x6_1) [.int .u8 (bt a0 x6_1)] (fun _ => True) (fun _ => False) rfl rfl ?aP (fun _ hk => hk.elim) ?aF ?aO ?aB ?aS ?aL ?_; (case aP => exact rfl); (case aB => exact bw); (case aF => exact (fun _ _ => trivial)); (case aO => exact (kr HO_5)); (case aS => exact (below_size bw)); (case aL => have := LMc31.out; omega); intro v1081 w32 ho hb hg hat; rw [← Ny1080.out] at ho; have n0_ := Aside0.mk (blk_grown (g := gb1073) (o := .cells #[.int .i64 x1074000_1, .string x1074001_1] 230 (0, 0)) bk hg (Kd.R_ne HO_5.out BK1073.out (by decide))); have n1_ := Aside0.mk (hb); have n2_ := Aside0.mk (ho); clear BK1073; clear HB; clear HO_5; have BK1073 := n0_; have HB := n1_; have HO1082 := n2_; clear n0_ n1_ n2_; clear ho hb hg hat))
                      go_roundg k1
                      case measure => have := HK1.out; omega
                      case rel => exact ⟨(y1080), (wrap64 (x6_1 + 1)), (x1074000_1), (x1074001_1), eqv, H', ⟨by have := HK1.out; omega⟩, ⟨kr HO1082⟩, ⟨bk⟩, ⟨bw⟩⟩
                    · rw [if_neg c31] at H
                      exact absurd H (by simp)
                  · replace c30 := Bool.eq_false_iff.mpr c30
                    subst c30
                    have H1 : (some (0, (⟨#[]⟩ : ByteArray), (⟨#[]⟩ : ByteArray), 3)) = some (r1, r2, r3, r4) := by rw [if_neg (show ¬ (false = true) by decide)] at H; exact H
                    clear H
                    have H := H1
                    clear H1
                    simp only [Option.some.injEq, Prod.mk.injEq] at H
                    obtain ⟨rfl, rfl, rfl, rfl⟩ := H
                    have p5 : 0 ≤ (x6_1 : Int) := of_decide_eq_true asm
                    have q5 : x6_1 < (a0.size : Int) := of_decide_eq_true asm
                    have hx5 := bt_at a0 x6_1
                    replace p5 := eq_true p5
                    replace q5 := eq_true q5
                    go_wp2_with (first | ((with_reducible refine gate_callee (f := 249) rfl ?_); refine goesM (some 26) Tryz.func249 #[.string (a0.extract (x6_1 : Int).toNat a0.size)] ?_; (with_reducible refine (lex_fold.calls (a0.extract (x6_1 : Int).toNat a0.size) false _ A8.out).mono ?_); rintro e w' ⟨rfl, ⟨nd, rfl⟩⟩; refine ⟨_, rfl, ?_⟩; (try (rw [drewN_self wr]; generalize hq_ : World.drewN wr _ = wr; have n0_ : Aside0 (Kd.R (Kd.int .u8) 5 wr w.heap.size (fun _ => True) u5 x5_1) := ⟨by rw [← hq_]; exact (kr HO_5)⟩; have n1_ : Aside0 (wr.heap[gb1073]? = some (.cells #[.int .i64 x1074000_1, .string x1074001_1] 230 (0, 0))) := ⟨by rw [← hq_]; exact bk⟩; have n2_ : Aside0 (Below w.heap.size w wr) := ⟨by rw [← hq_]; exact bw⟩; clear HO_5 BK1073 HB hq_; have HO_5 := n0_; have BK1073 := n1_; have HB := n2_; clear n0_ n1_ n2_))) | ((with_reducible refine gate_callee (f := 221) rfl ?_); refine goesM (some 60) Tryz.func221 #[.int .u8 (bt a0 x6_1)] ?_; (with_reducible refine (lex_text.calls (bt a0 x6_1) false _ A29.out).mono ?_); rintro e w' ⟨rfl, ⟨nd, rfl⟩⟩; refine ⟨_, rfl, ?_⟩; (try (rw [drewN_self wr]; generalize hq_ : World.drewN wr _ = wr; have n0_ : Aside0 (Kd.R (Kd.int .u8) 5 wr w.heap.size (fun _ => True) u5 x5_1) := ⟨by rw [← hq_]; exact (kr HO_5)⟩; have n1_ : Aside0 (wr.heap[gb1073]? = some (.cells #[.int .i64 x1074000_1, .string x1074001_1] 230 (0, 0))) := ⟨by rw [← hq_]; exact bk⟩; have n2_ : Aside0 (Below w.heap.size w wr) := ⟨by rw [← hq_]; exact bw⟩; clear HO_5 BK1073 HB hq_; have HO_5 := n0_; have BK1073 := n1_; have HB := n2_; clear n0_ n1_ n2_)); have hcz33_0 : wr.cell? ⟨gb1073, 0, none⟩ = some (.int .i64 x1074000_1) := (blk_cell BK1073.out 0).trans rfl; have hcz33_1 : wr.cell? ⟨gb1073, 1, none⟩ = some (.string x1074001_1) := (blk_cell BK1073.out 1).trans rfl; have hfz33_0 := blk_frozen BK1073.out 0; have hfz33_1 := blk_frozen BK1073.out 1))
                    refine bodyPost_ret (results_ctt rfl _ _ gb1073 230 #[.int .i64 0, .string (⟨#[]⟩ : ByteArray)] (0, 0) _ rfl (by (with_reducible repeat (first | refine blk_drewN ?_ _ | refine blk_drew ?_ | refine blk_alloc ?_ _)); refine blk_put (cs := #[.int .i64 0, .string x1074001_1]) ?_ 1 _ rfl; (with_reducible repeat (first | refine blk_drewN ?_ _ | refine blk_drew ?_ | refine blk_alloc ?_ _)); refine blk_put (cs := #[.int .i64 x1074000_1, .string x1074001_1]) ?_ 0 _ rfl; (with_reducible repeat (first | refine blk_drewN ?_ _ | refine blk_drew ?_ | refine blk_alloc ?_ _)); exact BK1073.out) Tryz.underlying230 rfl (by kernel_rfl)) rfl ?_
                    exact ⟨eqe, bw⟩
          · rw [if_neg c7] at H
            exact absurd H (by simp)
        · rw [if_neg c4] at H
          exact absurd H (by simp)
      · rw [if_neg c3] at H
        have c3b0 : decide (x6_1 < (a0.size : Int)) = false := decide_eq_false c3
        clear c3
        simp only [Option.some.injEq, Prod.mk.injEq] at H
        obtain ⟨rfl, rfl, rfl, rfl⟩ := H
        have hcz34_0 : wr.cell? ⟨gb1073, 0, none⟩ = some (.int .i64 x1074000_1) := (blk_cell BK1073.out 0).trans rfl
        have hcz34_1 : wr.cell? ⟨gb1073, 1, none⟩ = some (.string x1074001_1) := (blk_cell BK1073.out 1).trans rfl
        have hfz34_0 := blk_frozen BK1073.out 0
        have hfz34_1 := blk_frozen BK1073.out 1
        go_wp2
        refine bodyPost_ret (results_ctt rfl _ _ gb1073 230 #[.int .i64 0, .string (⟨#[]⟩ : ByteArray)] (0, 0) _ rfl (by (with_reducible repeat (first | refine blk_drewN ?_ _ | refine blk_drew ?_ | refine blk_alloc ?_ _)); refine blk_put (cs := #[.int .i64 0, .string x1074001_1]) ?_ 1 _ rfl; (with_reducible repeat (first | refine blk_drewN ?_ _ | refine blk_drew ?_ | refine blk_alloc ?_ _)); refine blk_put (cs := #[.int .i64 x1074000_1, .string x1074001_1]) ?_ 0 _ rfl; (with_reducible repeat (first | refine blk_drewN ?_ _ | refine blk_drew ?_ | refine blk_alloc ?_ _)); exact BK1073.out) Tryz.underlying230 rfl (by kernel_rfl)) rfl ?_
        exact ⟨eqe, bw⟩
end Go.Proofs.YtjohcncekfcgpaaGreatDoor.P
end
section
namespace Go.Proofs.YtjohcncekfcgpaaGreatDoor.P
open Go.RowKit Go.Proofs.YtjohcncekfcgpaaGreatDoorW.PrintWords Go.Proofs.YtjohcncekfcgpaaGreatDoorW.PrintLast Go.Proofs.YtjohcncekfcgpaaGreatDoorW.PrintMore
attribute [local go_sem] max2_int min2_int max_two min_two max_three min_three max_four min_four
set_option linter.unusedVariables false
set_option linter.unusedSimpArgs false
def lex_next.l0 : Nat → ByteArray → Int → Option (Int × ByteArray × ByteArray × Int)
  | 0, _, _ => none
  | k + 1, x0, x8 => if x8 < (x0.size : Int) then (if 0 ≤ x8 then ((lex_atomic.f (bt x0 x8)).bind fun t1094 => (if t1094 = true then (lex_next.l0 k x0 (wrap64 (x8 + 1))) else (if x8 = 0 then (some (0, (⟨#[]⟩ : ByteArray), (⟨#[]⟩ : ByteArray), 3)) else (if x8 ≤ (x0.size : Int) then (some (1, x0.extract 0 (x8 : Int).toNat, x0.extract (x8 : Int).toNat x0.size, 0)) else (none))))) else (none)) else (if x8 = 0 then (some (0, (⟨#[]⟩ : ByteArray), (⟨#[]⟩ : ByteArray), 3)) else (if 0 ≤ x8 then (if x8 ≤ (x0.size : Int) then (some (1, x0.extract 0 (x8 : Int).toNat, x0.extract (x8 : Int).toNat x0.size, 0)) else (none)) else (none)))
def lex_next.f (k : Nat) (a0 : ByteArray) : Option (Int × ByteArray × ByteArray × Int) := if 0 < (a0.size : Int) then ((lex_white.f (bt a0 0)).bind fun t1085 => (if t1085 = true then (if 1 ≤ (a0.size : Int) then (some (0, (⟨#[]⟩ : ByteArray), a0.extract 1 a0.size, 0)) else (none)) else ((lex_fold.f a0).bind fun t1086 => (if t1086 = true then (if 2 ≤ (a0.size : Int) then (some (0, (⟨#[]⟩ : ByteArray), a0.extract 2 a0.size, 0)) else (none)) else (if (bt a0 0) = 40 then ((lex_comment.f k a0).bind fun bt1087 => (some (0, (⟨#[]⟩ : ByteArray), bt1087.1, bt1087.2))) else (if (bt a0 0) = 34 then ((lex_quoted.f k a0).bind fun bt1089 => (some (bt1089.1, bt1089.2.1, bt1089.2.2.1, bt1089.2.2.2))) else ((lex_sign.f (bt a0 0)).bind fun t1093 => (if t1093 = true then (if 0 ≤ 1 then (if 1 ≤ (a0.size : Int) then (some (3, a0.extract 0 1, a0.extract 1 a0.size, 0)) else (none)) else (none)) else (lex_next.l0 k a0 0))))))))) else (none)
theorem lex_next.mono_l : ∀ k, (∀ y0 y1, LeO (lex_next.l0 k y0 y1) (lex_next.l0 (k + 1) y0 y1))
  | 0 => fun _ _ r h => by simp [lex_next.l0] at h
  | k + 1 => by
    have ih0 := lex_next.mono_l k
    · intro y0 y1
      unfold lex_next.l0
      repeat' first
      | (with_reducible exact ih0 _ _)
      | (with_reducible exact lex_comment.mono _ _)
      | (with_reducible exact lex_quoted.mono _ _)
      | (with_reducible exact LeO.refl _)
      | (with_reducible exact LeO.none _)
      | (with_reducible refine LeO.ite ?_ ?_)
      | (with_reducible refine LeO.bind ?_ (fun _ => ?_))
      | exact ih0 _ _
      | exact lex_comment.mono _ _
      | exact lex_quoted.mono _ _
      | exact LeO.none _
      | refine LeO.ite ?_ ?_
      | refine LeO.bind ?_ (fun _ => ?_)
theorem lex_next.mono : ∀ a0 k, LeO (lex_next.f k a0) (lex_next.f (k + 1) a0) := by
  intro a0 k
  have ih0 := lex_next.mono_l k
  unfold lex_next.f
  repeat' first
      | (with_reducible exact ih0 _ _)
      | (with_reducible exact lex_comment.mono _ _)
      | (with_reducible exact lex_quoted.mono _ _)
      | (with_reducible exact LeO.refl _)
      | (with_reducible exact LeO.none _)
      | (with_reducible refine LeO.ite ?_ ?_)
      | (with_reducible refine LeO.bind ?_ (fun _ => ?_))
      | exact ih0 _ _
      | exact lex_comment.mono _ _
      | exact lex_quoted.mono _ _
      | exact LeO.none _
      | refine LeO.ite ?_ ?_
      | refine LeO.bind ?_ (fun _ => ?_)
def lex_next.T12 : Bool × List (List Nat × List Nat) := (true, [([], []), ([0], [0]), ([1], [1]), ([], []), ([3], [3]), ([2, 0, 1, 2], [2]), ([4, 5, 0, 1, 2, 3, 4, 5], [4]), ([6, 0, 1, 2, 3, 4, 5, 6], [])])
def lex_next.B12 : List Nat := [0, 1, 3, 0, 8, 7, 63, 127]
theorem lex_next.tab12 : rtab .any (opsOf Tryz.f225 12) = lex_next.T12 := by kernel_rfl
theorem lex_next.bits12 : waitsOk lex_next.T12.2 lex_next.B12 = true := by kernel_rfl
def lex_next.T18 : Bool × List (List Nat × List Nat) := (true, [([], []), ([], []), ([0, 1], [0, 1]), ([2], [2]), ([], []), ([], []), ([4, 5], [4, 5]), ([3, 0, 1, 2, 3], [3]), ([6, 7, 0, 1, 2, 3, 4, 5, 6, 7], [6]), ([8, 0, 1, 2, 3, 4, 5, 6, 7, 8], [])])
def lex_next.B18 : List Nat := [0, 0, 3, 7, 0, 0, 48, 15, 255, 511]
theorem lex_next.tab18 : rtab .any (opsOf Tryz.f225 18) = lex_next.T18 := by kernel_rfl
theorem lex_next.bits18 : waitsOk lex_next.T18.2 lex_next.B18 = true := by kernel_rfl
set_option maxHeartbeats 8000000 in
set_option maxRecDepth 100000 in
theorem lex_next.calls (k : Nat) (a0 : ByteArray) (r1 : Int) (r2 : ByteArray) (r3 : ByteArray) (r4 : Int) (w : World) (h : lex_next.f k a0 = some (r1, r2, r3, r4)) :
    Calls Tryz.prog 225 #[.string a0] w fun e w' => e = .returned (.tuple #[.agg #[.int .i64 r1, .string r2], .string r3, .int .i64 r4]) ∧ Below w.heap.size w w' := by
  have hu230 := Tryz.underlying230
  have HB := Aside0.mk (Below.refl w.heap.size w)
  have H : (if 0 < (a0.size : Int) then ((lex_white.f (bt a0 0)).bind fun t1085 => (if t1085 = true then (if 1 ≤ (a0.size : Int) then (some (0, (⟨#[]⟩ : ByteArray), a0.extract 1 a0.size, 0)) else (none)) else ((lex_fold.f a0).bind fun t1086 => (if t1086 = true then (if 2 ≤ (a0.size : Int) then (some (0, (⟨#[]⟩ : ByteArray), a0.extract 2 a0.size, 0)) else (none)) else (if (bt a0 0) = 40 then ((lex_comment.f k a0).bind fun bt1087 => (some (0, (⟨#[]⟩ : ByteArray), bt1087.1, bt1087.2))) else (if (bt a0 0) = 34 then ((lex_quoted.f k a0).bind fun bt1089 => (some (bt1089.1, bt1089.2.1, bt1089.2.2.1, bt1089.2.2.2))) else ((lex_sign.f (bt a0 0)).bind fun t1093 => (if t1093 = true then (if 0 ≤ 1 then (if 1 ≤ (a0.size : Int) then (some (3, a0.extract 0 1, a0.extract 1 a0.size, 0)) else (none)) else (none)) else (lex_next.l0 k a0 0))))))))) else (none)) = some (r1, r2, r3, r4) := h
  clear h
  by_cases c2 : 0 < (a0.size : Int)
  · rw [if_pos c2] at H
    have c2b0 : decide (0 < (a0.size : Int)) = true := decide_eq_true c2
    have c2b1 : decide (0 < a0.size) = true := decide_eq_true (by omega)
    clear c2
    replace H := Option.bind_eq_some_iff.mp H
    obtain ⟨t1085, A40, H⟩ := H
    replace H : (if t1085 = true then (if 1 ≤ (a0.size : Int) then (some (0, (⟨#[]⟩ : ByteArray), a0.extract 1 a0.size, 0)) else (none)) else ((lex_fold.f a0).bind fun t1086 => (if t1086 = true then (if 2 ≤ (a0.size : Int) then (some (0, (⟨#[]⟩ : ByteArray), a0.extract 2 a0.size, 0)) else (none)) else (if (bt a0 0) = 40 then ((lex_comment.f k a0).bind fun bt1087 => (some (0, (⟨#[]⟩ : ByteArray), bt1087.1, bt1087.2))) else (if (bt a0 0) = 34 then ((lex_quoted.f k a0).bind fun bt1089 => (some (bt1089.1, bt1089.2.1, bt1089.2.2.1, bt1089.2.2.2))) else ((lex_sign.f (bt a0 0)).bind fun t1093 => (if t1093 = true then (if 0 ≤ 1 then (if 1 ≤ (a0.size : Int) then (some (3, a0.extract 0 1, a0.extract 1 a0.size, 0)) else (none)) else (none)) else (lex_next.l0 k a0 0)))))))) = some (r1, r2, r3, r4) := H
    have A4 := Aside0.mk A40
    clear A40
    by_cases c5 : t1085 = true
    · subst c5
      have H1 : (if 1 ≤ (a0.size : Int) then (some (0, (⟨#[]⟩ : ByteArray), a0.extract 1 a0.size, 0)) else (none)) = some (r1, r2, r3, r4) := by rw [if_pos rfl] at H; exact H
      clear H
      have H := H1
      clear H1
      by_cases c6 : 1 ≤ (a0.size : Int)
      · rw [if_pos c6] at H
        have c6b0 := eq_true c6
        have c6b1 : decide (1 ≤ (a0.size : Int)) = true := decide_eq_true c6
        clear c6
        simp only [Option.some.injEq, Prod.mk.injEq] at H
        obtain ⟨rfl, rfl, rfl, rfl⟩ := H
        go_enter Tryz.func225, Tryz.ntmps225
        try go_wp2_with (first | ((with_reducible refine gate_dst (N := 2) rfl ?_); refine boxE 2 #[.int .i64 0, .string (⟨#[]⟩ : ByteArray)] 230 ?_; intro gb1084 hg w7 hbox hb; have n0_ := Aside0.mk (below_step bw hb); have n1_ := Aside0.mk (hbox); have n2_ := Aside0.mk ((bz hg : w.heap.size ≤ gb1084)); have n3_ := Aside0.mk ((bz hg : w.heap.size ≤ gb1084)); clear HB; have HB := n0_; have BK1084 := n1_; have GW1084 := n2_; have GE1084 := n3_; clear n0_ n1_ n2_ n3_; clear hb hbox hg; have p3 : 0 ≤ (0 : Int) := (by omega); have q3 : 0 < a0.size := (by have : (0 : Int) < (a0.size : Int) := of_decide_eq_true asm; omega); have hx3 : ∀ h : 0 < a0.size, ((a0[0]'h).toNat : Int) = bt a0 0 := bt_at a0 0; clear p3; have qi3 : (0 < (a0.size : Int)) = True := eq_true (of_decide_eq_true asm); replace q3 := eq_true q3) | ((with_reducible refine gate_callee (f := 248) rfl ?_); refine goesM (some 13) Tryz.func248 #[.int .u8 (bt a0 0)] ?_; (with_reducible refine (lex_white.calls (bt a0 0) true _ A4.out).mono ?_); rintro e w' ⟨rfl, ⟨nd, rfl⟩⟩; refine ⟨_, rfl, ?_⟩; (try (rw [drewN_self w7]; generalize hq_ : World.drewN w7 _ = w7; have n0_ : Aside0 (w7.heap[gb1084]? = some (.cells #[.int .i64 0, .string (⟨#[]⟩ : ByteArray)] 230 (0, 0))) := ⟨by rw [← hq_]; exact bk⟩; have n1_ : Aside0 (Below w.heap.size w w7) := ⟨by rw [← hq_]; exact bw⟩; clear BK1084 HB hq_; have BK1084 := n0_; have HB := n1_; clear n0_ n1_))))
        have n0_ := Aside0.mk (blk_drew BK1084.out)
        have n1_ := Aside0.mk (below_drew1 HB.out)
        clear BK1084
        clear HB
        have BK1084 := n0_
        have HB := n1_
        clear n0_ n1_
        refine start_ (n := 6) (S := fun w' => True) (ds := []) #[false, false, false, false, false, false] (by kernel_rfl) rfl rfl trivial (fun hHeld => ?_)
        generalize w7.drew = w8 at BK1084 HB hHeld ⊢
        refine pure_ (i := 0) (N := some 14) (v := ?_) (a' := ?_) #[true, false, false, false, false, false] rfl rfl (by kernel_rfl) (fun _ _ _ h => h) (Or.inl ⟨by rfl, ?_⟩) ?_ ?_
        rotate_left
        · intro w'
          go_simp
          with_reducible rfl
        rotate_left
        · simp only [Act.put, List.setIfInBounds_toArray, List.set_cons_zero, List.set_cons_succ, i64_w, i32_w]
          rfl
        refine pure_ (i := 1) (N := some 15) (v := ?_) (a' := ?_) #[true, true, false, false, false, false] rfl rfl (by kernel_rfl) (fun _ _ _ h => h) (Or.inl ⟨by rfl, ?_⟩) ?_ ?_
        rotate_left
        · intro w'
          go_simp
          with_reducible rfl
        rotate_left
        · simp only [Act.put, List.setIfInBounds_toArray, List.set_cons_zero, List.set_cons_succ, i64_w, i32_w]
          rfl
        refine pure_ (i := 2) (N := some 16) (v := ?_) (a' := ?_) #[true, true, true, false, false, false] rfl rfl (by kernel_rfl) (fun _ _ _ h => h) (Or.inl ⟨by rfl, ?_⟩) ?_ ?_
        rotate_left
        · intro w'
          go_simp
          with_reducible rfl
        rotate_left
        · simp only [Act.put, List.setIfInBounds_toArray, List.set_cons_zero, List.set_cons_succ, i64_w, i32_w]
          rfl
        refine one_ (i := 3) (N := none) #[true, true, true, true, false, false] rfl rfl (by kernel_rfl) (by decide) (fun K hK => ?_)
        have hs9 : w8.cell? ⟨gb1084, 0, none⟩ = some (.int .i64 0) := (blk_cell BK1084.out 0).trans rfl
        have hfs9 := blk_frozen BK1084.out 0
        have hs10 : w8.cell? ⟨gb1084, 1, none⟩ = some (.string (⟨#[]⟩ : ByteArray)) := (blk_cell BK1084.out 1).trans rfl
        have hfs10 := blk_frozen BK1084.out 1
        refine skip_ (w1 := ?_) (by rfl) rfl ?_ ?_
        rotate_left
        · go_simp
          rfl
        refine hK.out _ _ trivial (fun hHeld => ?_)
        clear hK K
        refine pure_ (i := 4) (N := some 3) (v := ?_) (a' := ?_) #[true, true, true, true, true, false] rfl rfl (by kernel_rfl) (fun _ _ _ h => h) (Or.inl ⟨by rfl, ?_⟩) ?_ ?_
        rotate_left
        · intro w'
          go_simp
          with_reducible rfl
        rotate_left
        · simp only [Act.put, List.setIfInBounds_toArray, List.set_cons_zero, List.set_cons_succ, i64_w, i32_w]
          rfl
        refine pure_ (i := 5) (N := some 4) (v := ?_) (a' := ?_) #[true, true, true, true, true, true] rfl rfl (by kernel_rfl) (fun _ _ _ h => h) (Or.inl ⟨by rfl, ?_⟩) ?_ ?_
        rotate_left
        · intro w'
          go_simp
          with_reducible rfl
        rotate_left
        · simp only [Act.put, List.setIfInBounds_toArray, List.set_cons_zero, List.set_cons_succ, i64_w, i32_w]
          rfl
        refine done_ (by kernel_rfl) ?_
        try go_wp2
        refine bodyPost_ret (results_ctt rfl _ _ gb1084 230 #[.int .i64 0, .string (⟨#[]⟩ : ByteArray)] (0, 0) _ rfl (by (with_reducible repeat (first | refine blk_drewN ?_ _ | refine blk_drew ?_ | refine blk_alloc ?_ _)); refine blk_put (cs := #[.int .i64 0, .string (⟨#[]⟩ : ByteArray)]) ?_ 1 _ rfl; (with_reducible repeat (first | refine blk_drewN ?_ _ | refine blk_drew ?_ | refine blk_alloc ?_ _)); refine blk_put (cs := #[.int .i64 0, .string (⟨#[]⟩ : ByteArray)]) ?_ 0 _ rfl; (with_reducible repeat (first | refine blk_drewN ?_ _ | refine blk_drew ?_ | refine blk_alloc ?_ _)); exact BK1084.out) Tryz.underlying230 rfl (by kernel_rfl)) rfl ?_
        exact ⟨eqe, bw⟩
      · rw [if_neg c6] at H
        exact absurd H (by simp)
    · replace c5 := Bool.eq_false_iff.mpr c5
      subst c5
      have H1 : ((lex_fold.f a0).bind fun t1086 => (if t1086 = true then (if 2 ≤ (a0.size : Int) then (some (0, (⟨#[]⟩ : ByteArray), a0.extract 2 a0.size, 0)) else (none)) else (if (bt a0 0) = 40 then ((lex_comment.f k a0).bind fun bt1087 => (some (0, (⟨#[]⟩ : ByteArray), bt1087.1, bt1087.2))) else (if (bt a0 0) = 34 then ((lex_quoted.f k a0).bind fun bt1089 => (some (bt1089.1, bt1089.2.1, bt1089.2.2.1, bt1089.2.2.2))) else ((lex_sign.f (bt a0 0)).bind fun t1093 => (if t1093 = true then (if 0 ≤ 1 then (if 1 ≤ (a0.size : Int) then (some (3, a0.extract 0 1, a0.extract 1 a0.size, 0)) else (none)) else (none)) else (lex_next.l0 k a0 0))))))) = some (r1, r2, r3, r4) := by rw [if_neg (show ¬ (false = true) by decide)] at H; exact H
      clear H
      have H := H1
      clear H1
      replace H := Option.bind_eq_some_iff.mp H
      obtain ⟨t1086, A110, H⟩ := H
      replace H : (if t1086 = true then (if 2 ≤ (a0.size : Int) then (some (0, (⟨#[]⟩ : ByteArray), a0.extract 2 a0.size, 0)) else (none)) else (if (bt a0 0) = 40 then ((lex_comment.f k a0).bind fun bt1087 => (some (0, (⟨#[]⟩ : ByteArray), bt1087.1, bt1087.2))) else (if (bt a0 0) = 34 then ((lex_quoted.f k a0).bind fun bt1089 => (some (bt1089.1, bt1089.2.1, bt1089.2.2.1, bt1089.2.2.2))) else ((lex_sign.f (bt a0 0)).bind fun t1093 => (if t1093 = true then (if 0 ≤ 1 then (if 1 ≤ (a0.size : Int) then (some (3, a0.extract 0 1, a0.extract 1 a0.size, 0)) else (none)) else (none)) else (lex_next.l0 k a0 0)))))) = some (r1, r2, r3, r4) := H
      have A11 := Aside0.mk A110
      clear A110
      by_cases c12 : t1086 = true
      · subst c12
        have H1 : (if 2 ≤ (a0.size : Int) then (some (0, (⟨#[]⟩ : ByteArray), a0.extract 2 a0.size, 0)) else (none)) = some (r1, r2, r3, r4) := by rw [if_pos rfl] at H; exact H
        clear H
        have H := H1
        clear H1
        by_cases c13 : 2 ≤ (a0.size : Int)
        · rw [if_pos c13] at H
          have c13b0 := eq_true c13
          have c13b1 : decide (2 ≤ (a0.size : Int)) = true := decide_eq_true c13
          clear c13
          simp only [Option.some.injEq, Prod.mk.injEq] at H
          obtain ⟨rfl, rfl, rfl, rfl⟩ := H
          go_enter Tryz.func225, Tryz.ntmps225
          try go_wp2_with (first | ((with_reducible refine gate_dst (N := 2) rfl ?_); refine boxE 2 #[.int .i64 0, .string (⟨#[]⟩ : ByteArray)] 230 ?_; intro gb1084 hg w14 hbox hb; have n0_ := Aside0.mk (below_step bw hb); have n1_ := Aside0.mk (hbox); have n2_ := Aside0.mk ((bz hg : w.heap.size ≤ gb1084)); have n3_ := Aside0.mk ((bz hg : w.heap.size ≤ gb1084)); clear HB; have HB := n0_; have BK1084 := n1_; have GW1084 := n2_; have GE1084 := n3_; clear n0_ n1_ n2_ n3_; clear hb hbox hg; have p3 : 0 ≤ (0 : Int) := (by omega); have q3 : 0 < a0.size := (by have : (0 : Int) < (a0.size : Int) := of_decide_eq_true asm; omega); have hx3 : ∀ h : 0 < a0.size, ((a0[0]'h).toNat : Int) = bt a0 0 := bt_at a0 0; clear p3; have qi3 : (0 < (a0.size : Int)) = True := eq_true (of_decide_eq_true asm); replace q3 := eq_true q3) | ((with_reducible refine gate_callee (f := 248) rfl ?_); refine goesM (some 13) Tryz.func248 #[.int .u8 (bt a0 0)] ?_; (with_reducible refine (lex_white.calls (bt a0 0) false _ A4.out).mono ?_); rintro e w' ⟨rfl, ⟨nd, rfl⟩⟩; refine ⟨_, rfl, ?_⟩; (try (rw [drewN_self w14]; generalize hq_ : World.drewN w14 _ = w14; have n0_ : Aside0 (w14.heap[gb1084]? = some (.cells #[.int .i64 0, .string (⟨#[]⟩ : ByteArray)] 230 (0, 0))) := ⟨by rw [← hq_]; exact bk⟩; have n1_ : Aside0 (Below w.heap.size w w14) := ⟨by rw [← hq_]; exact bw⟩; clear BK1084 HB hq_; have BK1084 := n0_; have HB := n1_; clear n0_ n1_))) | ((with_reducible refine gate_callee (f := 249) rfl ?_); refine goesM (some 19) Tryz.func249 #[.string a0] ?_; (with_reducible refine (lex_fold.calls a0 true _ A11.out).mono ?_); rintro e w' ⟨rfl, ⟨nd, rfl⟩⟩; refine ⟨_, rfl, ?_⟩; (try (rw [drewN_self w14]; generalize hq_ : World.drewN w14 _ = w14; have n0_ : Aside0 (w14.heap[gb1084]? = some (.cells #[.int .i64 0, .string (⟨#[]⟩ : ByteArray)] 230 (0, 0))) := ⟨by rw [← hq_]; exact bk⟩; have n1_ : Aside0 (Below w.heap.size w w14) := ⟨by rw [← hq_]; exact bw⟩; clear BK1084 HB hq_; have BK1084 := n0_; have HB := n1_; clear n0_ n1_))))
          have n0_ := Aside0.mk (blk_drew BK1084.out)
          have n1_ := Aside0.mk (below_drew1 HB.out)
          clear BK1084
          clear HB
          have BK1084 := n0_
          have HB := n1_
          clear n0_ n1_
          refine start_ (n := 6) (S := fun w' => True) (ds := []) #[false, false, false, false, false, false] (by kernel_rfl) rfl rfl trivial (fun hHeld => ?_)
          generalize w14.drew = w15 at BK1084 HB hHeld ⊢
          refine pure_ (i := 0) (N := some 20) (v := ?_) (a' := ?_) #[true, false, false, false, false, false] rfl rfl (by kernel_rfl) (fun _ _ _ h => h) (Or.inl ⟨by rfl, ?_⟩) ?_ ?_
          rotate_left
          · intro w'
            go_simp
            with_reducible rfl
          rotate_left
          · simp only [Act.put, List.setIfInBounds_toArray, List.set_cons_zero, List.set_cons_succ, i64_w, i32_w]
            rfl
          refine pure_ (i := 1) (N := some 21) (v := ?_) (a' := ?_) #[true, true, false, false, false, false] rfl rfl (by kernel_rfl) (fun _ _ _ h => h) (Or.inl ⟨by rfl, ?_⟩) ?_ ?_
          rotate_left
          · intro w'
            go_simp
            with_reducible rfl
          rotate_left
          · simp only [Act.put, List.setIfInBounds_toArray, List.set_cons_zero, List.set_cons_succ, i64_w, i32_w]
            rfl
          refine pure_ (i := 2) (N := some 22) (v := ?_) (a' := ?_) #[true, true, true, false, false, false] rfl rfl (by kernel_rfl) (fun _ _ _ h => h) (Or.inl ⟨by rfl, ?_⟩) ?_ ?_
          rotate_left
          · intro w'
            go_simp
            with_reducible rfl
          rotate_left
          · simp only [Act.put, List.setIfInBounds_toArray, List.set_cons_zero, List.set_cons_succ, i64_w, i32_w]
            rfl
          refine one_ (i := 3) (N := none) #[true, true, true, true, false, false] rfl rfl (by kernel_rfl) (by decide) (fun K hK => ?_)
          have hs16 : w15.cell? ⟨gb1084, 0, none⟩ = some (.int .i64 0) := (blk_cell BK1084.out 0).trans rfl
          have hfs16 := blk_frozen BK1084.out 0
          have hs17 : w15.cell? ⟨gb1084, 1, none⟩ = some (.string (⟨#[]⟩ : ByteArray)) := (blk_cell BK1084.out 1).trans rfl
          have hfs17 := blk_frozen BK1084.out 1
          refine skip_ (w1 := ?_) (by rfl) rfl ?_ ?_
          rotate_left
          · go_simp
            rfl
          refine hK.out _ _ trivial (fun hHeld => ?_)
          clear hK K
          refine pure_ (i := 4) (N := some 3) (v := ?_) (a' := ?_) #[true, true, true, true, true, false] rfl rfl (by kernel_rfl) (fun _ _ _ h => h) (Or.inl ⟨by rfl, ?_⟩) ?_ ?_
          rotate_left
          · intro w'
            go_simp
            with_reducible rfl
          rotate_left
          · simp only [Act.put, List.setIfInBounds_toArray, List.set_cons_zero, List.set_cons_succ, i64_w, i32_w]
            rfl
          refine pure_ (i := 5) (N := some 4) (v := ?_) (a' := ?_) #[true, true, true, true, true, true] rfl rfl (by kernel_rfl) (fun _ _ _ h => h) (Or.inl ⟨by rfl, ?_⟩) ?_ ?_
          rotate_left
          · intro w'
            go_simp
            with_reducible rfl
          rotate_left
          · simp only [Act.put, List.setIfInBounds_toArray, List.set_cons_zero, List.set_cons_succ, i64_w, i32_w]
            rfl
          refine done_ (by kernel_rfl) ?_
          try go_wp2
          refine bodyPost_ret (results_ctt rfl _ _ gb1084 230 #[.int .i64 0, .string (⟨#[]⟩ : ByteArray)] (0, 0) _ rfl (by (with_reducible repeat (first | refine blk_drewN ?_ _ | refine blk_drew ?_ | refine blk_alloc ?_ _)); refine blk_put (cs := #[.int .i64 0, .string (⟨#[]⟩ : ByteArray)]) ?_ 1 _ rfl; (with_reducible repeat (first | refine blk_drewN ?_ _ | refine blk_drew ?_ | refine blk_alloc ?_ _)); refine blk_put (cs := #[.int .i64 0, .string (⟨#[]⟩ : ByteArray)]) ?_ 0 _ rfl; (with_reducible repeat (first | refine blk_drewN ?_ _ | refine blk_drew ?_ | refine blk_alloc ?_ _)); exact BK1084.out) Tryz.underlying230 rfl (by kernel_rfl)) rfl ?_
          exact ⟨eqe, bw⟩
        · rw [if_neg c13] at H
          exact absurd H (by simp)
      · replace c12 := Bool.eq_false_iff.mpr c12
        subst c12
        have H1 : (if (bt a0 0) = 40 then ((lex_comment.f k a0).bind fun bt1087 => (some (0, (⟨#[]⟩ : ByteArray), bt1087.1, bt1087.2))) else (if (bt a0 0) = 34 then ((lex_quoted.f k a0).bind fun bt1089 => (some (bt1089.1, bt1089.2.1, bt1089.2.2.1, bt1089.2.2.2))) else ((lex_sign.f (bt a0 0)).bind fun t1093 => (if t1093 = true then (if 0 ≤ 1 then (if 1 ≤ (a0.size : Int) then (some (3, a0.extract 0 1, a0.extract 1 a0.size, 0)) else (none)) else (none)) else (lex_next.l0 k a0 0))))) = some (r1, r2, r3, r4) := by rw [if_neg (show ¬ (false = true) by decide)] at H; exact H
        clear H
        have H := H1
        clear H1
        by_cases c18 : (bt a0 0) = 40
        · rw [if_pos c18] at H
          have c18b0 : ((bt a0 0) == 40) = true := beq_iff_eq.mpr c18
          have c18b1 : ((bt a0 0) != 40) = false := bne_eq_false_iff_eq.mpr c18
          clear c18
          replace H := Option.bind_eq_some_iff.mp H
          obtain ⟨⟨t1087, t1088⟩, A190, H⟩ := H
          replace H : (some (0, (⟨#[]⟩ : ByteArray), t1087, t1088)) = some (r1, r2, r3, r4) := H
          have A19 := Aside0.mk A190
          clear A190
          simp only [Option.some.injEq, Prod.mk.injEq] at H
          obtain ⟨rfl, rfl, rfl, rfl⟩ := H
          go_enter Tryz.func225, Tryz.ntmps225
          go_wp2_with (first | ((with_reducible refine gate_dst (N := 2) rfl ?_); refine boxE 2 #[.int .i64 0, .string (⟨#[]⟩ : ByteArray)] 230 ?_; intro gb1084 hg w20 hbox hb; have n0_ := Aside0.mk (below_step bw hb); have n1_ := Aside0.mk (hbox); have n2_ := Aside0.mk ((bz hg : w.heap.size ≤ gb1084)); have n3_ := Aside0.mk ((bz hg : w.heap.size ≤ gb1084)); clear HB; have HB := n0_; have BK1084 := n1_; have GW1084 := n2_; have GE1084 := n3_; clear n0_ n1_ n2_ n3_; clear hb hbox hg; have p3 : 0 ≤ (0 : Int) := (by omega); have q3 : 0 < a0.size := (by have : (0 : Int) < (a0.size : Int) := of_decide_eq_true asm; omega); have hx3 : ∀ h : 0 < a0.size, ((a0[0]'h).toNat : Int) = bt a0 0 := bt_at a0 0; clear p3; have qi3 : (0 < (a0.size : Int)) = True := eq_true (of_decide_eq_true asm); replace q3 := eq_true q3) | ((with_reducible refine gate_callee (f := 248) rfl ?_); refine goesM (some 13) Tryz.func248 #[.int .u8 (bt a0 0)] ?_; (with_reducible refine (lex_white.calls (bt a0 0) false _ A4.out).mono ?_); rintro e w' ⟨rfl, ⟨nd, rfl⟩⟩; refine ⟨_, rfl, ?_⟩; (try (rw [drewN_self w20]; generalize hq_ : World.drewN w20 _ = w20; have n0_ : Aside0 (w20.heap[gb1084]? = some (.cells #[.int .i64 0, .string (⟨#[]⟩ : ByteArray)] 230 (0, 0))) := ⟨by rw [← hq_]; exact bk⟩; have n1_ : Aside0 (Below w.heap.size w w20) := ⟨by rw [← hq_]; exact bw⟩; clear BK1084 HB hq_; have BK1084 := n0_; have HB := n1_; clear n0_ n1_))) | ((with_reducible refine gate_callee (f := 249) rfl ?_); refine goesM (some 19) Tryz.func249 #[.string a0] ?_; (with_reducible refine (lex_fold.calls a0 false _ A11.out).mono ?_); rintro e w' ⟨rfl, ⟨nd, rfl⟩⟩; refine ⟨_, rfl, ?_⟩; (try (rw [drewN_self w20]; generalize hq_ : World.drewN w20 _ = w20; have n0_ : Aside0 (w20.heap[gb1084]? = some (.cells #[.int .i64 0, .string (⟨#[]⟩ : ByteArray)] 230 (0, 0))) := ⟨by rw [← hq_]; exact bk⟩; have n1_ : Aside0 (Below w.heap.size w w20) := ⟨by rw [← hq_]; exact bw⟩; clear BK1084 HB hq_; have BK1084 := n0_; have HB := n1_; clear n0_ n1_))) | ((with_reducible refine gate_callee (f := 250) rfl ?_); refine goesM (some 28) Tryz.func250 #[.string a0] ?_; (with_reducible refine (lex_comment.calls k a0 t1087 t1088 _ A19.out).mono ?_); rintro e w' ⟨rfl, ⟨nd, rfl⟩⟩; refine ⟨_, rfl, ?_⟩; (try (rw [drewN_self w20]; generalize hq_ : World.drewN w20 _ = w20; have n0_ : Aside0 (w20.heap[gb1084]? = some (.cells #[.int .i64 0, .string (⟨#[]⟩ : ByteArray)] 230 (0, 0))) := ⟨by rw [← hq_]; exact bk⟩; have n1_ : Aside0 (Below w.heap.size w w20) := ⟨by rw [← hq_]; exact bw⟩; clear BK1084 HB hq_; have BK1084 := n0_; have HB := n1_; clear n0_ n1_)); have hcz21_0 : w20.cell? ⟨gb1084, 0, none⟩ = some (.int .i64 0) := (blk_cell BK1084.out 0).trans rfl; have hcz21_1 : w20.cell? ⟨gb1084, 1, none⟩ = some (.string (⟨#[]⟩ : ByteArray)) := (blk_cell BK1084.out 1).trans rfl; have hfz21_0 := blk_frozen BK1084.out 0; have hfz21_1 := blk_frozen BK1084.out 1))
          refine bodyPost_ret (results_ctt rfl _ _ gb1084 230 #[.int .i64 0, .string (⟨#[]⟩ : ByteArray)] (0, 0) _ rfl (by (with_reducible repeat (first | refine blk_drewN ?_ _ | refine blk_drew ?_ | refine blk_alloc ?_ _)); refine blk_put (cs := #[.int .i64 0, .string (⟨#[]⟩ : ByteArray)]) ?_ 1 _ rfl; (with_reducible repeat (first | refine blk_drewN ?_ _ | refine blk_drew ?_ | refine blk_alloc ?_ _)); refine blk_put (cs := #[.int .i64 0, .string (⟨#[]⟩ : ByteArray)]) ?_ 0 _ rfl; (with_reducible repeat (first | refine blk_drewN ?_ _ | refine blk_drew ?_ | refine blk_alloc ?_ _)); exact BK1084.out) Tryz.underlying230 rfl (by kernel_rfl)) rfl ?_
          exact ⟨eqe, bw⟩
        · rw [if_neg c18] at H
          have c18b0 : ((bt a0 0) == 40) = false := beq_eq_false_iff_ne.mpr c18
          have c18b1 : ((bt a0 0) != 40) = true := bne_iff_ne.mpr c18
          by_cases c22 : (bt a0 0) = 34
          · rw [if_pos c22] at H
            have c22b0 : ((bt a0 0) == 34) = true := beq_iff_eq.mpr c22
            have c22b1 : ((bt a0 0) != 34) = false := bne_eq_false_iff_eq.mpr c22
            clear c22
            replace H := Option.bind_eq_some_iff.mp H
            obtain ⟨⟨t1089, t1090, t1091, t1092⟩, A230, H⟩ := H
            replace H : (some (t1089, t1090, t1091, t1092)) = some (r1, r2, r3, r4) := H
            have A23 := Aside0.mk A230
            clear A230
            simp only [Option.some.injEq, Prod.mk.injEq] at H
            obtain ⟨rfl, rfl, rfl, rfl⟩ := H
            go_enter Tryz.func225, Tryz.ntmps225
            go_wp2_with (first | ((with_reducible refine gate_dst (N := 2) rfl ?_); refine boxE 2 #[.int .i64 0, .string (⟨#[]⟩ : ByteArray)] 230 ?_; intro gb1084 hg w24 hbox hb; have n0_ := Aside0.mk (below_step bw hb); have n1_ := Aside0.mk (hbox); have n2_ := Aside0.mk ((bz hg : w.heap.size ≤ gb1084)); have n3_ := Aside0.mk ((bz hg : w.heap.size ≤ gb1084)); clear HB; have HB := n0_; have BK1084 := n1_; have GW1084 := n2_; have GE1084 := n3_; clear n0_ n1_ n2_ n3_; clear hb hbox hg; have p3 : 0 ≤ (0 : Int) := (by omega); have q3 : 0 < a0.size := (by have : (0 : Int) < (a0.size : Int) := of_decide_eq_true asm; omega); have hx3 : ∀ h : 0 < a0.size, ((a0[0]'h).toNat : Int) = bt a0 0 := bt_at a0 0; clear p3; have qi3 : (0 < (a0.size : Int)) = True := eq_true (of_decide_eq_true asm); replace q3 := eq_true q3) | ((with_reducible refine gate_callee (f := 248) rfl ?_); refine goesM (some 13) Tryz.func248 #[.int .u8 (bt a0 0)] ?_; (with_reducible refine (lex_white.calls (bt a0 0) false _ A4.out).mono ?_); rintro e w' ⟨rfl, ⟨nd, rfl⟩⟩; refine ⟨_, rfl, ?_⟩; (try (rw [drewN_self w24]; generalize hq_ : World.drewN w24 _ = w24; have n0_ : Aside0 (w24.heap[gb1084]? = some (.cells #[.int .i64 0, .string (⟨#[]⟩ : ByteArray)] 230 (0, 0))) := ⟨by rw [← hq_]; exact bk⟩; have n1_ : Aside0 (Below w.heap.size w w24) := ⟨by rw [← hq_]; exact bw⟩; clear BK1084 HB hq_; have BK1084 := n0_; have HB := n1_; clear n0_ n1_))) | ((with_reducible refine gate_callee (f := 249) rfl ?_); refine goesM (some 19) Tryz.func249 #[.string a0] ?_; (with_reducible refine (lex_fold.calls a0 false _ A11.out).mono ?_); rintro e w' ⟨rfl, ⟨nd, rfl⟩⟩; refine ⟨_, rfl, ?_⟩; (try (rw [drewN_self w24]; generalize hq_ : World.drewN w24 _ = w24; have n0_ : Aside0 (w24.heap[gb1084]? = some (.cells #[.int .i64 0, .string (⟨#[]⟩ : ByteArray)] 230 (0, 0))) := ⟨by rw [← hq_]; exact bk⟩; have n1_ : Aside0 (Below w.heap.size w w24) := ⟨by rw [← hq_]; exact bw⟩; clear BK1084 HB hq_; have BK1084 := n0_; have HB := n1_; clear n0_ n1_))) | ((with_reducible refine gate_callee (f := 251) rfl ?_); refine goesM (some 38) Tryz.func251 #[.string a0] ?_; (with_reducible refine (lex_quoted.calls k a0 t1089 t1090 t1091 t1092 _ A23.out).mono ?_); rintro e w25 ⟨rfl, hb⟩; refine ⟨_, rfl, ?_⟩; have n0_ := Aside0.mk (bb BK1084 hb); have n1_ := Aside0.mk (below_step bw hb); clear BK1084; clear HB; have BK1084 := n0_; have HB := n1_; clear n0_ n1_; (try clear hb); (try clear hb2); (try clear hk); (try clear hi); have hcz26_0 : w25.cell? ⟨gb1084, 0, none⟩ = some (.int .i64 0) := (blk_cell BK1084.out 0).trans rfl; have hcz26_1 : w25.cell? ⟨gb1084, 1, none⟩ = some (.string (⟨#[]⟩ : ByteArray)) := (blk_cell BK1084.out 1).trans rfl; have hfz26_0 := blk_frozen BK1084.out 0; have hfz26_1 := blk_frozen BK1084.out 1))
            refine bodyPost_ret (results_ctt rfl _ _ gb1084 230 #[.int .i64 t1089, .string t1090] (0, 0) _ rfl (by (with_reducible repeat (first | refine blk_drewN ?_ _ | refine blk_drew ?_ | refine blk_alloc ?_ _)); refine blk_put (cs := #[.int .i64 t1089, .string (⟨#[]⟩ : ByteArray)]) ?_ 1 _ rfl; (with_reducible repeat (first | refine blk_drewN ?_ _ | refine blk_drew ?_ | refine blk_alloc ?_ _)); refine blk_put (cs := #[.int .i64 0, .string (⟨#[]⟩ : ByteArray)]) ?_ 0 _ rfl; (with_reducible repeat (first | refine blk_drewN ?_ _ | refine blk_drew ?_ | refine blk_alloc ?_ _)); exact BK1084.out) Tryz.underlying230 rfl (by kernel_rfl)) rfl ?_
            exact ⟨eqe, bw⟩
          · rw [if_neg c22] at H
            have c22b0 : ((bt a0 0) == 34) = false := beq_eq_false_iff_ne.mpr c22
            have c22b1 : ((bt a0 0) != 34) = true := bne_iff_ne.mpr c22
            replace H := Option.bind_eq_some_iff.mp H
            obtain ⟨t1093, A270, H⟩ := H
            replace H : (if t1093 = true then (if 0 ≤ 1 then (if 1 ≤ (a0.size : Int) then (some (3, a0.extract 0 1, a0.extract 1 a0.size, 0)) else (none)) else (none)) else (lex_next.l0 k a0 0)) = some (r1, r2, r3, r4) := H
            have A27 := Aside0.mk A270
            clear A270
            by_cases c28 : t1093 = true
            · subst c28
              have H1 : (if 0 ≤ 1 then (if 1 ≤ (a0.size : Int) then (some (3, a0.extract 0 1, a0.extract 1 a0.size, 0)) else (none)) else (none)) = some (r1, r2, r3, r4) := by rw [if_pos rfl] at H; exact H
              clear H
              have H := H1
              clear H1
              by_cases c29 : 0 ≤ 1
              · rw [if_pos c29] at H
                have c29b0 := eq_true c29
                have c29b1 : decide (0 ≤ 1) = true := decide_eq_true c29
                clear c29
                by_cases c30 : 1 ≤ (a0.size : Int)
                · rw [if_pos c30] at H
                  have c30b0 := eq_true c30
                  have c30b1 : decide (1 ≤ (a0.size : Int)) = true := decide_eq_true c30
                  clear c30
                  have c31b0 := eq_true (of_decide_eq_true asm : 1 ≤ (a0.size : Int))
                  simp only [Option.some.injEq, Prod.mk.injEq] at H
                  obtain ⟨rfl, rfl, rfl, rfl⟩ := H
                  go_enter Tryz.func225, Tryz.ntmps225
                  try go_wp2_with (first | ((with_reducible refine gate_dst (N := 2) rfl ?_); refine boxE 2 #[.int .i64 0, .string (⟨#[]⟩ : ByteArray)] 230 ?_; intro gb1084 hg w32 hbox hb; have n0_ := Aside0.mk (below_step bw hb); have n1_ := Aside0.mk (hbox); have n2_ := Aside0.mk ((bz hg : w.heap.size ≤ gb1084)); have n3_ := Aside0.mk ((bz hg : w.heap.size ≤ gb1084)); clear HB; have HB := n0_; have BK1084 := n1_; have GW1084 := n2_; have GE1084 := n3_; clear n0_ n1_ n2_ n3_; clear hb hbox hg; have p3 : 0 ≤ (0 : Int) := (by omega); have q3 : 0 < a0.size := (by have : (0 : Int) < (a0.size : Int) := of_decide_eq_true asm; omega); have hx3 : ∀ h : 0 < a0.size, ((a0[0]'h).toNat : Int) = bt a0 0 := bt_at a0 0; clear p3; have qi3 : (0 < (a0.size : Int)) = True := eq_true (of_decide_eq_true asm); replace q3 := eq_true q3) | ((with_reducible refine gate_callee (f := 248) rfl ?_); refine goesM (some 13) Tryz.func248 #[.int .u8 (bt a0 0)] ?_; (with_reducible refine (lex_white.calls (bt a0 0) false _ A4.out).mono ?_); rintro e w' ⟨rfl, ⟨nd, rfl⟩⟩; refine ⟨_, rfl, ?_⟩; (try (rw [drewN_self w32]; generalize hq_ : World.drewN w32 _ = w32; have n0_ : Aside0 (w32.heap[gb1084]? = some (.cells #[.int .i64 0, .string (⟨#[]⟩ : ByteArray)] 230 (0, 0))) := ⟨by rw [← hq_]; exact bk⟩; have n1_ : Aside0 (Below w.heap.size w w32) := ⟨by rw [← hq_]; exact bw⟩; clear BK1084 HB hq_; have BK1084 := n0_; have HB := n1_; clear n0_ n1_))) | ((with_reducible refine gate_callee (f := 249) rfl ?_); refine goesM (some 19) Tryz.func249 #[.string a0] ?_; (with_reducible refine (lex_fold.calls a0 false _ A11.out).mono ?_); rintro e w' ⟨rfl, ⟨nd, rfl⟩⟩; refine ⟨_, rfl, ?_⟩; (try (rw [drewN_self w32]; generalize hq_ : World.drewN w32 _ = w32; have n0_ : Aside0 (w32.heap[gb1084]? = some (.cells #[.int .i64 0, .string (⟨#[]⟩ : ByteArray)] 230 (0, 0))) := ⟨by rw [← hq_]; exact bk⟩; have n1_ : Aside0 (Below w.heap.size w w32) := ⟨by rw [← hq_]; exact bw⟩; clear BK1084 HB hq_; have BK1084 := n0_; have HB := n1_; clear n0_ n1_))) | ((with_reducible refine gate_callee (f := 252) rfl ?_); refine goesM (some 44) Tryz.func252 #[.int .u8 (bt a0 0)] ?_; (with_reducible refine (lex_sign.calls (bt a0 0) true _ A27.out).mono ?_); rintro e w' ⟨rfl, ⟨nd, rfl⟩⟩; refine ⟨_, rfl, ?_⟩; (try (rw [drewN_self w32]; generalize hq_ : World.drewN w32 _ = w32; have n0_ : Aside0 (w32.heap[gb1084]? = some (.cells #[.int .i64 0, .string (⟨#[]⟩ : ByteArray)] 230 (0, 0))) := ⟨by rw [← hq_]; exact bk⟩; have n1_ : Aside0 (Below w.heap.size w w32) := ⟨by rw [← hq_]; exact bw⟩; clear BK1084 HB hq_; have BK1084 := n0_; have HB := n1_; clear n0_ n1_))))
                  have n0_ := Aside0.mk (blk_drew BK1084.out)
                  have n1_ := Aside0.mk (below_drew1 HB.out)
                  clear BK1084
                  clear HB
                  have BK1084 := n0_
                  have HB := n1_
                  clear n0_ n1_
                  refine start_ (n := 8) (S := fun w' => True) (ds := []) #[false, false, false, false, false, false, false, false] (by kernel_rfl) rfl rfl trivial (fun hHeld => ?_); refine with_tabW lex_next.tab12 lex_next.bits12 (fun HT_ HW_ => ?_)
                  generalize w32.drew = w33 at BK1084 HB hHeld ⊢
                  refine pure_ (i := 0) (N := some 45) (v := ?_) (a' := ?_) #[true, false, false, false, false, false, false, false] rfl rfl (any_of HT_.out (by kernel_rfl)) (fun _ _ _ h => h) (Or.inl ⟨by rfl, ?_⟩) ?_ ?_
                  rotate_left
                  · intro w'
                    go_simp
                    with_reducible rfl
                  rotate_left
                  · simp only [Act.put, List.setIfInBounds_toArray, List.set_cons_zero, List.set_cons_succ, i64_w, i32_w]
                    rfl
                  refine pure_ (i := 1) (N := some 46) (v := ?_) (a' := ?_) #[true, true, false, false, false, false, false, false] rfl rfl (any_of HT_.out (by kernel_rfl)) (fun _ _ _ h => h) (Or.inl ⟨by rfl, ?_⟩) ?_ ?_
                  rotate_left
                  · intro w'
                    go_simp
                    with_reducible rfl
                  rotate_left
                  · simp only [Act.put, List.setIfInBounds_toArray, List.set_cons_zero, List.set_cons_succ, i64_w, i32_w]
                    rfl
                  refine pure_ (i := 2) (N := some 47) (v := ?_) (a' := ?_) #[true, true, true, false, false, false, false, false] rfl rfl (any_of HT_.out (by kernel_rfl)) (fun _ _ _ h => h) (Or.inl ⟨by rfl, ?_⟩) ?_ ?_
                  rotate_left
                  · intro w'
                    go_simp
                    with_reducible rfl
                  rotate_left
                  · simp only [Act.put, List.setIfInBounds_toArray, List.set_cons_zero, List.set_cons_succ, i64_w, i32_w]
                    rfl
                  refine pure_ (i := 3) (N := some 48) (v := ?_) (a' := ?_) #[true, true, true, true, false, false, false, false] rfl rfl (any_of HT_.out (by kernel_rfl)) (fun _ _ _ h => h) (Or.inl ⟨by rfl, ?_⟩) ?_ ?_
                  rotate_left
                  · intro w'
                    go_simp
                    with_reducible rfl
                  rotate_left
                  · simp only [Act.put, List.setIfInBounds_toArray, List.set_cons_zero, List.set_cons_succ, i64_w, i32_w]
                    rfl
                  refine pure_ (i := 4) (N := some 49) (v := ?_) (a' := ?_) #[true, true, true, true, true, false, false, false] rfl rfl (any_of HT_.out (by kernel_rfl)) (fun _ _ _ h => h) (Or.inl ⟨by rfl, ?_⟩) ?_ ?_
                  rotate_left
                  · intro w'
                    go_simp
                    with_reducible rfl
                  rotate_left
                  · simp only [Act.put, List.setIfInBounds_toArray, List.set_cons_zero, List.set_cons_succ, i64_w, i32_w]
                    rfl
                  refine one_ (i := 5) (N := none) #[true, true, true, true, true, true, false, false] rfl rfl (one_of HT_.out (by kernel_rfl)) (by decide) (fun K hK => ?_)
                  have hs34 : w33.cell? ⟨gb1084, 0, none⟩ = some (.int .i64 0) := (blk_cell BK1084.out 0).trans rfl
                  have hfs34 := blk_frozen BK1084.out 0
                  have hs35 : w33.cell? ⟨gb1084, 1, none⟩ = some (.string (⟨#[]⟩ : ByteArray)) := (blk_cell BK1084.out 1).trans rfl
                  have hfs35 := blk_frozen BK1084.out 1
                  refine skip_ (w1 := ?_) (by rfl) rfl ?_ ?_
                  rotate_left
                  · go_simp
                    rfl
                  refine hK.out _ _ trivial (fun hHeld => ?_)
                  clear hK K
                  refine pure_ (i := 6) (N := some 3) (v := ?_) (a' := ?_) #[true, true, true, true, true, true, true, false] rfl rfl (any_of HT_.out (by kernel_rfl)) (fun _ _ _ h => h) (Or.inl ⟨by rfl, ?_⟩) ?_ ?_
                  rotate_left
                  · intro w'
                    go_simp
                    with_reducible rfl
                  rotate_left
                  · simp only [Act.put, List.setIfInBounds_toArray, List.set_cons_zero, List.set_cons_succ, i64_w, i32_w]
                    rfl
                  refine pure_ (i := 7) (N := some 4) (v := ?_) (a' := ?_) #[true, true, true, true, true, true, true, true] rfl rfl (any_of HT_.out (by kernel_rfl)) (fun _ _ _ h => h) (Or.inl ⟨by rfl, ?_⟩) ?_ ?_
                  rotate_left
                  · intro w'
                    go_simp
                    with_reducible rfl
                  rotate_left
                  · simp only [Act.put, List.setIfInBounds_toArray, List.set_cons_zero, List.set_cons_succ, i64_w, i32_w]
                    rfl
                  refine done_ (done_of HT_.out (by kernel_rfl)) ?_
                  try go_wp2
                  refine bodyPost_ret (results_ctt rfl _ _ gb1084 230 #[.int .i64 3, .string (a0.extract 0 1)] (0, 0) _ rfl (by (with_reducible repeat (first | refine blk_drewN ?_ _ | refine blk_drew ?_ | refine blk_alloc ?_ _)); refine blk_put (cs := #[.int .i64 3, .string (⟨#[]⟩ : ByteArray)]) ?_ 1 _ rfl; (with_reducible repeat (first | refine blk_drewN ?_ _ | refine blk_drew ?_ | refine blk_alloc ?_ _)); refine blk_put (cs := #[.int .i64 0, .string (⟨#[]⟩ : ByteArray)]) ?_ 0 _ rfl; (with_reducible repeat (first | refine blk_drewN ?_ _ | refine blk_drew ?_ | refine blk_alloc ?_ _)); exact BK1084.out) Tryz.underlying230 rfl (by kernel_rfl)) rfl ?_
                  exact ⟨eqe, bw⟩
                · rw [if_neg c30] at H
                  exact absurd H (by simp)
              · rw [if_neg c29] at H
                exact absurd H (by simp)
            · replace c28 := Bool.eq_false_iff.mpr c28
              subst c28
              have H1 : (lex_next.l0 k a0 0) = some (r1, r2, r3, r4) := by rw [if_neg (show ¬ (false = true) by decide)] at H; exact H
              clear H
              have H := H1
              clear H1
              have H' := Aside0.mk H
              clear H
              go_enter Tryz.func225, Tryz.ntmps225
              go_wp2_with (first | ((with_reducible refine gate_dst (N := 2) rfl ?_); refine boxE 2 #[.int .i64 0, .string (⟨#[]⟩ : ByteArray)] 230 ?_; intro gb1084 hg w36 hbox hb; have n0_ := Aside0.mk (below_step bw hb); have n1_ := Aside0.mk (hbox); have n2_ := Aside0.mk ((bz hg : w.heap.size ≤ gb1084)); have n3_ := Aside0.mk ((bz hg : w.heap.size ≤ gb1084)); clear HB; have HB := n0_; have BK1084 := n1_; have GW1084 := n2_; have GE1084 := n3_; clear n0_ n1_ n2_ n3_; clear hb hbox hg; have p3 : 0 ≤ (0 : Int) := (by omega); have q3 : 0 < a0.size := (by have : (0 : Int) < (a0.size : Int) := of_decide_eq_true asm; omega); have hx3 : ∀ h : 0 < a0.size, ((a0[0]'h).toNat : Int) = bt a0 0 := bt_at a0 0; clear p3; have qi3 : (0 < (a0.size : Int)) = True := eq_true (of_decide_eq_true asm); replace q3 := eq_true q3) | ((with_reducible refine gate_callee (f := 248) rfl ?_); refine goesM (some 13) Tryz.func248 #[.int .u8 (bt a0 0)] ?_; (with_reducible refine (lex_white.calls (bt a0 0) false _ A4.out).mono ?_); rintro e w' ⟨rfl, ⟨nd, rfl⟩⟩; refine ⟨_, rfl, ?_⟩) | ((with_reducible refine gate_callee (f := 249) rfl ?_); refine goesM (some 19) Tryz.func249 #[.string a0] ?_; (with_reducible refine (lex_fold.calls a0 false _ A11.out).mono ?_); rintro e w' ⟨rfl, ⟨nd, rfl⟩⟩; refine ⟨_, rfl, ?_⟩) | ((with_reducible refine gate_callee (f := 252) rfl ?_); refine goesM (some 44) Tryz.func252 #[.int .u8 (bt a0 0)] ?_; (with_reducible refine (lex_sign.calls (bt a0 0) false _ A27.out).mono ?_); rintro e w' ⟨rfl, ⟨nd, rfl⟩⟩; refine ⟨_, rfl, ?_⟩))
              go_loopg [8] k (fun kq v8 w' => ∃ (x8_1 : Int), v8 = .int .i64 x8_1 ∧ Aside0 (lex_next.l0 kq a0 x8_1 = some (r1, r2, r3, r4)) ∧ Aside0 (kq ≤ k) ∧ Aside0 (w'.heap[gb1084]? = some (.cells #[.int .i64 0, .string (⟨#[]⟩ : ByteArray)] 230 (0, 0))) ∧ Aside0 (Below w.heap.size w w'))
              case atStart => exact ⟨(0), eqv, H', ⟨Nat.le_refl _⟩, ⟨bk⟩, ⟨bw⟩⟩
              case round =>
                clear H'
                try clear c1
                try clear c2
                try clear c2b0
                try clear c2b1
                try clear p2
                try clear c3
                try clear p3
                try clear q3
                try clear hx3
                try clear qi3
                try clear c5
                try clear c6
                try clear c6b0
                try clear c6b1
                try clear c12
                try clear c13
                try clear c13b0
                try clear c13b1
                try clear c18
                try clear c18b0
                try clear c18b1
                try clear c22
                try clear c22b0
                try clear c22b1
                try clear c24
                try clear c25
                try clear c28
                try clear c29
                try clear c29b0
                try clear c29b1
                try clear c30
                try clear c30b0
                try clear c30b1
                try clear c31
                try clear c31b0
                try clear hcz21_0
                try clear hcz21_1
                try clear hcz26_0
                try clear hcz26_1
                try clear hfz21_0
                try clear hfz21_1
                try clear hfz26_0
                try clear hfz26_1
                try clear p3
                try clear q3
                obtain ⟨x8_1, rfl, HA, HK1, BK1084, HB⟩ := hrel
                cases gk with
                | zero => exact absurd HA.out (by simp [lex_next.l0])
                | succ k1 =>
                  have H := HA.out
                  clear HA
                  simp only [lex_next.l0] at H
                  by_cases c37 : x8_1 < (a0.size : Int)
                  · rw [if_pos c37] at H
                    have c37b0 : decide (x8_1 < (a0.size : Int)) = true := decide_eq_true c37
                    clear c37
                    by_cases c38 : 0 ≤ x8_1
                    · rw [if_pos c38] at H
                      have c38b0 : decide (0 ≤ x8_1) = true := decide_eq_true c38
                      clear c38
                      replace H := Option.bind_eq_some_iff.mp H
                      obtain ⟨t1094, A400, H⟩ := H
                      replace H : (if t1094 = true then (lex_next.l0 k1 a0 (wrap64 (x8_1 + 1))) else (if x8_1 = 0 then (some (0, (⟨#[]⟩ : ByteArray), (⟨#[]⟩ : ByteArray), 3)) else (if x8_1 ≤ (a0.size : Int) then (some (1, a0.extract 0 (x8_1 : Int).toNat, a0.extract (x8_1 : Int).toNat a0.size, 0)) else (none)))) = some (r1, r2, r3, r4) := H
                      have A40 := Aside0.mk A400
                      clear A400
                      by_cases c41 : t1094 = true
                      · subst c41
                        have H1 : (lex_next.l0 k1 a0 (wrap64 (x8_1 + 1))) = some (r1, r2, r3, r4) := by rw [if_pos rfl] at H; exact H
                        clear H
                        have H := H1
                        clear H1
                        have H' := Aside0.mk H
                        clear H
                        have p39 : 0 ≤ (x8_1 : Int) := of_decide_eq_true asm
                        have q39 : x8_1 < (a0.size : Int) := of_decide_eq_true asm
                        have hx39 := bt_at a0 x8_1
                        replace p39 := eq_true p39
                        replace q39 := eq_true q39
                        go_wp2_with (first | (go_at_call 247; (with_reducible refine (lex_atomic.calls (bt a0 x8_1) true _ A40.out).mono ?_); rintro e w' ⟨rfl, ⟨nd, rfl⟩⟩))
                        go_roundg k1
                        case measure => have := HK1.out; omega
                        case rel => exact ⟨(wrap64 (x8_1 + 1)), eqv, H', ⟨by have := HK1.out; omega⟩, ⟨bk⟩, ⟨bw⟩⟩
                      · replace c41 := Bool.eq_false_iff.mpr c41
                        subst c41
                        have H1 : (if x8_1 = 0 then (some (0, (⟨#[]⟩ : ByteArray), (⟨#[]⟩ : ByteArray), 3)) else (if x8_1 ≤ (a0.size : Int) then (some (1, a0.extract 0 (x8_1 : Int).toNat, a0.extract (x8_1 : Int).toNat a0.size, 0)) else (none))) = some (r1, r2, r3, r4) := by rw [if_neg (show ¬ (false = true) by decide)] at H; exact H
                        clear H
                        have H := H1
                        clear H1
                        by_cases c42 : x8_1 = 0
                        · rw [if_pos c42] at H
                          have c42b0 : (x8_1 == 0) = true := beq_iff_eq.mpr c42
                          have c42b1 : (x8_1 != 0) = false := bne_eq_false_iff_eq.mpr c42
                          clear c42
                          simp only [Option.some.injEq, Prod.mk.injEq] at H
                          obtain ⟨rfl, rfl, rfl, rfl⟩ := H
                          have p39 : 0 ≤ (x8_1 : Int) := of_decide_eq_true asm
                          have q39 : x8_1 < (a0.size : Int) := of_decide_eq_true asm
                          have hx39 := bt_at a0 x8_1
                          replace p39 := eq_true p39
                          replace q39 := eq_true q39
                          go_wp2_with (first | (go_at_call 247; (with_reducible refine (lex_atomic.calls (bt a0 x8_1) false _ A40.out).mono ?_); rintro e w' ⟨rfl, ⟨nd, rfl⟩⟩; (try (rw [drewN_self wr]; generalize hq_ : World.drewN wr _ = wr; have n0_ : Aside0 (wr.heap[gb1084]? = some (.cells #[.int .i64 0, .string (⟨#[]⟩ : ByteArray)] 230 (0, 0))) := ⟨by rw [← hq_]; exact bk⟩; have n1_ : Aside0 (Below w.heap.size w wr) := ⟨by rw [← hq_]; exact bw⟩; clear BK1084 HB hq_; have BK1084 := n0_; have HB := n1_; clear n0_ n1_)); have hcz43_0 : wr.cell? ⟨gb1084, 0, none⟩ = some (.int .i64 0) := (blk_cell BK1084.out 0).trans rfl; have hcz43_1 : wr.cell? ⟨gb1084, 1, none⟩ = some (.string (⟨#[]⟩ : ByteArray)) := (blk_cell BK1084.out 1).trans rfl; have hfz43_0 := blk_frozen BK1084.out 0; have hfz43_1 := blk_frozen BK1084.out 1))
                          refine bodyPost_ret (results_ctt rfl _ _ gb1084 230 #[.int .i64 0, .string (⟨#[]⟩ : ByteArray)] (0, 0) _ rfl (by (with_reducible repeat (first | refine blk_drewN ?_ _ | refine blk_drew ?_ | refine blk_alloc ?_ _)); refine blk_put (cs := #[.int .i64 0, .string (⟨#[]⟩ : ByteArray)]) ?_ 1 _ rfl; (with_reducible repeat (first | refine blk_drewN ?_ _ | refine blk_drew ?_ | refine blk_alloc ?_ _)); refine blk_put (cs := #[.int .i64 0, .string (⟨#[]⟩ : ByteArray)]) ?_ 0 _ rfl; (with_reducible repeat (first | refine blk_drewN ?_ _ | refine blk_drew ?_ | refine blk_alloc ?_ _)); exact BK1084.out) Tryz.underlying230 rfl (by kernel_rfl)) rfl ?_
                          exact ⟨eqe, bw⟩
                        · rw [if_neg c42] at H
                          have c42b0 : (x8_1 == 0) = false := beq_eq_false_iff_ne.mpr c42
                          have c42b1 : (x8_1 != 0) = true := bne_iff_ne.mpr c42
                          have c44b0 := eq_true (of_decide_eq_true asm : 0 ≤ x8_1)
                          by_cases c45 : x8_1 ≤ (a0.size : Int)
                          · rw [if_pos c45] at H
                            have c45b0 := eq_true c45
                            have c45b1 : decide (x8_1 ≤ (a0.size : Int)) = true := decide_eq_true c45
                            clear c45
                            have c46b0 := eq_true (of_decide_eq_true asm : 0 ≤ x8_1)
                            have c47b0 := eq_true (of_decide_eq_true asm : x8_1 ≤ (a0.size : Int))
                            simp only [Option.some.injEq, Prod.mk.injEq] at H
                            obtain ⟨rfl, rfl, rfl, rfl⟩ := H
                            have p39 : 0 ≤ (x8_1 : Int) := of_decide_eq_true asm
                            have q39 : x8_1 < (a0.size : Int) := of_decide_eq_true asm
                            have hx39 := bt_at a0 x8_1
                            replace p39 := eq_true p39
                            replace q39 := eq_true q39
                            try go_wp2_with (first | (go_at_call 247; (with_reducible refine (lex_atomic.calls (bt a0 x8_1) false _ A40.out).mono ?_); rintro e w' ⟨rfl, ⟨nd, rfl⟩⟩; (try (rw [drewN_self wr]; generalize hq_ : World.drewN wr _ = wr; have n0_ : Aside0 (wr.heap[gb1084]? = some (.cells #[.int .i64 0, .string (⟨#[]⟩ : ByteArray)] 230 (0, 0))) := ⟨by rw [← hq_]; exact bk⟩; have n1_ : Aside0 (Below w.heap.size w wr) := ⟨by rw [← hq_]; exact bw⟩; clear BK1084 HB hq_; have BK1084 := n0_; have HB := n1_; clear n0_ n1_))))
                            have n0_ := Aside0.mk (blk_drew BK1084.out)
                            have n1_ := Aside0.mk (below_drew1 HB.out)
                            clear BK1084
                            clear HB
                            have BK1084 := n0_
                            have HB := n1_
                            clear n0_ n1_
                            refine start_ (n := 10) (S := fun w' => True) (ds := []) #[false, false, false, false, false, false, false, false, false, false] (by kernel_rfl) rfl rfl trivial (fun hHeld => ?_); refine with_tabW lex_next.tab18 lex_next.bits18 (fun HT_ HW_ => ?_)
                            generalize wr.drew = w48 at BK1084 HB hHeld ⊢
                            refine pure_ (i := 0) (N := some 65) (v := ?_) (a' := ?_) #[true, false, false, false, false, false, false, false, false, false] rfl rfl (any_of HT_.out (by kernel_rfl)) (fun _ _ _ h => h) (Or.inl ⟨by rfl, ?_⟩) ?_ ?_
                            rotate_left
                            · intro w'
                              go_simp
                              with_reducible rfl
                            rotate_left
                            · simp only [Act.put, List.setIfInBounds_toArray, List.set_cons_zero, List.set_cons_succ, i64_w, i32_w]
                              rfl
                            refine pure_ (i := 1) (N := some 66) (v := ?_) (a' := ?_) #[true, true, false, false, false, false, false, false, false, false] rfl rfl (any_of HT_.out (by kernel_rfl)) (fun _ _ _ h => h) (Or.inl ⟨by rfl, ?_⟩) ?_ ?_
                            rotate_left
                            · intro w'
                              go_simp
                              with_reducible rfl
                            rotate_left
                            · simp only [Act.put, List.setIfInBounds_toArray, List.set_cons_zero, List.set_cons_succ, i64_w, i32_w]
                              rfl
                            refine pure_ (i := 2) (N := some 67) (v := ?_) (a' := ?_) #[true, true, true, false, false, false, false, false, false, false] rfl rfl (any_of HT_.out (by kernel_rfl)) (fun _ _ _ h => h) (Or.inl ⟨by rfl, ?_⟩) ?_ ?_
                            rotate_left
                            · intro w'
                              go_simp
                              with_reducible rfl
                            rotate_left
                            · simp only [Act.put, List.setIfInBounds_toArray, List.set_cons_zero, List.set_cons_succ, i64_w, i32_w]
                              rfl
                            refine pure_ (i := 3) (N := some 68) (v := ?_) (a' := ?_) #[true, true, true, true, false, false, false, false, false, false] rfl rfl (any_of HT_.out (by kernel_rfl)) (fun _ _ _ h => h) (Or.inl ⟨by rfl, ?_⟩) ?_ ?_
                            rotate_left
                            · intro w'
                              go_simp
                              with_reducible rfl
                            rotate_left
                            · simp only [Act.put, List.setIfInBounds_toArray, List.set_cons_zero, List.set_cons_succ, i64_w, i32_w]
                              rfl
                            refine pure_ (i := 4) (N := some 69) (v := ?_) (a' := ?_) #[true, true, true, true, true, false, false, false, false, false] rfl rfl (any_of HT_.out (by kernel_rfl)) (fun _ _ _ h => h) (Or.inl ⟨by rfl, ?_⟩) ?_ ?_
                            rotate_left
                            · intro w'
                              go_simp
                              with_reducible rfl
                            rotate_left
                            · simp only [Act.put, List.setIfInBounds_toArray, List.set_cons_zero, List.set_cons_succ, i64_w, i32_w]
                              rfl
                            refine pure_ (i := 5) (N := some 70) (v := ?_) (a' := ?_) #[true, true, true, true, true, true, false, false, false, false] rfl rfl (any_of HT_.out (by kernel_rfl)) (fun _ _ _ h => h) (Or.inl ⟨by rfl, ?_⟩) ?_ ?_
                            rotate_left
                            · intro w'
                              go_simp
                              with_reducible rfl
                            rotate_left
                            · simp only [Act.put, List.setIfInBounds_toArray, List.set_cons_zero, List.set_cons_succ, i64_w, i32_w]
                              rfl
                            refine pure_ (i := 6) (N := some 71) (v := ?_) (a' := ?_) #[true, true, true, true, true, true, true, false, false, false] rfl rfl (any_of HT_.out (by kernel_rfl)) (fun _ _ _ h => h) (Or.inl ⟨by rfl, ?_⟩) ?_ ?_
                            rotate_left
                            · intro w'
                              go_simp
                              with_reducible rfl
                            rotate_left
                            · simp only [Act.put, List.setIfInBounds_toArray, List.set_cons_zero, List.set_cons_succ, i64_w, i32_w]
                              rfl
                            refine one_ (i := 7) (N := none) #[true, true, true, true, true, true, true, true, false, false] rfl rfl (one_of HT_.out (by kernel_rfl)) (by decide) (fun K hK => ?_)
                            have hs49 : w48.cell? ⟨gb1084, 0, none⟩ = some (.int .i64 0) := (blk_cell BK1084.out 0).trans rfl
                            have hfs49 := blk_frozen BK1084.out 0
                            have hs50 : w48.cell? ⟨gb1084, 1, none⟩ = some (.string (⟨#[]⟩ : ByteArray)) := (blk_cell BK1084.out 1).trans rfl
                            have hfs50 := blk_frozen BK1084.out 1
                            refine skip_ (w1 := ?_) (by rfl) rfl ?_ ?_
                            rotate_left
                            · go_simp
                              rfl
                            refine hK.out _ _ trivial (fun hHeld => ?_)
                            clear hK K
                            refine pure_ (i := 8) (N := some 3) (v := ?_) (a' := ?_) #[true, true, true, true, true, true, true, true, true, false] rfl rfl (any_of HT_.out (by kernel_rfl)) (fun _ _ _ h => h) (Or.inl ⟨by rfl, ?_⟩) ?_ ?_
                            rotate_left
                            · intro w'
                              go_simp
                              with_reducible rfl
                            rotate_left
                            · simp only [Act.put, List.setIfInBounds_toArray, List.set_cons_zero, List.set_cons_succ, i64_w, i32_w]
                              rfl
                            refine pure_ (i := 9) (N := some 4) (v := ?_) (a' := ?_) #[true, true, true, true, true, true, true, true, true, true] rfl rfl (any_of HT_.out (by kernel_rfl)) (fun _ _ _ h => h) (Or.inl ⟨by rfl, ?_⟩) ?_ ?_
                            rotate_left
                            · intro w'
                              go_simp
                              with_reducible rfl
                            rotate_left
                            · simp only [Act.put, List.setIfInBounds_toArray, List.set_cons_zero, List.set_cons_succ, i64_w, i32_w]
                              rfl
                            refine done_ (done_of HT_.out (by kernel_rfl)) ?_
                            try go_wp2
                            refine bodyPost_ret (results_ctt rfl _ _ gb1084 230 #[.int .i64 1, .string (a0.extract 0 (x8_1 : Int).toNat)] (0, 0) _ rfl (by (with_reducible repeat (first | refine blk_drewN ?_ _ | refine blk_drew ?_ | refine blk_alloc ?_ _)); refine blk_put (cs := #[.int .i64 1, .string (⟨#[]⟩ : ByteArray)]) ?_ 1 _ rfl; (with_reducible repeat (first | refine blk_drewN ?_ _ | refine blk_drew ?_ | refine blk_alloc ?_ _)); refine blk_put (cs := #[.int .i64 0, .string (⟨#[]⟩ : ByteArray)]) ?_ 0 _ rfl; (with_reducible repeat (first | refine blk_drewN ?_ _ | refine blk_drew ?_ | refine blk_alloc ?_ _)); exact BK1084.out) Tryz.underlying230 rfl (by kernel_rfl)) rfl ?_
                            exact ⟨eqe, bw⟩
                          · rw [if_neg c45] at H
                            exact absurd H (by simp)
                    · rw [if_neg c38] at H
                      exact absurd H (by simp)
                  · rw [if_neg c37] at H
                    have c37b0 : decide (x8_1 < (a0.size : Int)) = false := decide_eq_false c37
                    clear c37
                    by_cases c51 : x8_1 = 0
                    · rw [if_pos c51] at H
                      have c51b0 : (x8_1 == 0) = true := beq_iff_eq.mpr c51
                      have c51b1 : (x8_1 != 0) = false := bne_eq_false_iff_eq.mpr c51
                      clear c51
                      simp only [Option.some.injEq, Prod.mk.injEq] at H
                      obtain ⟨rfl, rfl, rfl, rfl⟩ := H
                      have hcz52_0 : wr.cell? ⟨gb1084, 0, none⟩ = some (.int .i64 0) := (blk_cell BK1084.out 0).trans rfl
                      have hcz52_1 : wr.cell? ⟨gb1084, 1, none⟩ = some (.string (⟨#[]⟩ : ByteArray)) := (blk_cell BK1084.out 1).trans rfl
                      have hfz52_0 := blk_frozen BK1084.out 0
                      have hfz52_1 := blk_frozen BK1084.out 1
                      go_wp2
                      refine bodyPost_ret (results_ctt rfl _ _ gb1084 230 #[.int .i64 0, .string (⟨#[]⟩ : ByteArray)] (0, 0) _ rfl (by (with_reducible repeat (first | refine blk_drewN ?_ _ | refine blk_drew ?_ | refine blk_alloc ?_ _)); refine blk_put (cs := #[.int .i64 0, .string (⟨#[]⟩ : ByteArray)]) ?_ 1 _ rfl; (with_reducible repeat (first | refine blk_drewN ?_ _ | refine blk_drew ?_ | refine blk_alloc ?_ _)); refine blk_put (cs := #[.int .i64 0, .string (⟨#[]⟩ : ByteArray)]) ?_ 0 _ rfl; (with_reducible repeat (first | refine blk_drewN ?_ _ | refine blk_drew ?_ | refine blk_alloc ?_ _)); exact BK1084.out) Tryz.underlying230 rfl (by kernel_rfl)) rfl ?_
                      exact ⟨eqe, bw⟩
                    · rw [if_neg c51] at H
                      have c51b0 : (x8_1 == 0) = false := beq_eq_false_iff_ne.mpr c51
                      have c51b1 : (x8_1 != 0) = true := bne_iff_ne.mpr c51
                      by_cases c53 : 0 ≤ x8_1
                      · rw [if_pos c53] at H
                        have c53b0 := eq_true c53
                        have c53b1 : decide (0 ≤ x8_1) = true := decide_eq_true c53
                        clear c53
                        by_cases c54 : x8_1 ≤ (a0.size : Int)
                        · rw [if_pos c54] at H
                          have c54b0 := eq_true c54
                          have c54b1 : decide (x8_1 ≤ (a0.size : Int)) = true := decide_eq_true c54
                          clear c54
                          have c55b0 := eq_true (of_decide_eq_true asm : 0 ≤ x8_1)
                          have c56b0 := eq_true (of_decide_eq_true asm : x8_1 ≤ (a0.size : Int))
                          simp only [Option.some.injEq, Prod.mk.injEq] at H
                          obtain ⟨rfl, rfl, rfl, rfl⟩ := H
                          try go_wp2
                          have n0_ := Aside0.mk (blk_drew BK1084.out)
                          have n1_ := Aside0.mk (below_drew1 HB.out)
                          clear BK1084
                          clear HB
                          have BK1084 := n0_
                          have HB := n1_
                          clear n0_ n1_
                          refine start_ (n := 10) (S := fun w' => True) (ds := []) #[false, false, false, false, false, false, false, false, false, false] (by kernel_rfl) rfl rfl trivial (fun hHeld => ?_); refine with_tabW lex_next.tab18 lex_next.bits18 (fun HT_ HW_ => ?_)
                          generalize wr.drew = w57 at BK1084 HB hHeld ⊢
                          refine pure_ (i := 0) (N := some 65) (v := ?_) (a' := ?_) #[true, false, false, false, false, false, false, false, false, false] rfl rfl (any_of HT_.out (by kernel_rfl)) (fun _ _ _ h => h) (Or.inl ⟨by rfl, ?_⟩) ?_ ?_
                          rotate_left
                          · intro w'
                            go_simp
                            with_reducible rfl
                          rotate_left
                          · simp only [Act.put, List.setIfInBounds_toArray, List.set_cons_zero, List.set_cons_succ, i64_w, i32_w]
                            rfl
                          refine pure_ (i := 1) (N := some 66) (v := ?_) (a' := ?_) #[true, true, false, false, false, false, false, false, false, false] rfl rfl (any_of HT_.out (by kernel_rfl)) (fun _ _ _ h => h) (Or.inl ⟨by rfl, ?_⟩) ?_ ?_
                          rotate_left
                          · intro w'
                            go_simp
                            with_reducible rfl
                          rotate_left
                          · simp only [Act.put, List.setIfInBounds_toArray, List.set_cons_zero, List.set_cons_succ, i64_w, i32_w]
                            rfl
                          refine pure_ (i := 2) (N := some 67) (v := ?_) (a' := ?_) #[true, true, true, false, false, false, false, false, false, false] rfl rfl (any_of HT_.out (by kernel_rfl)) (fun _ _ _ h => h) (Or.inl ⟨by rfl, ?_⟩) ?_ ?_
                          rotate_left
                          · intro w'
                            go_simp
                            with_reducible rfl
                          rotate_left
                          · simp only [Act.put, List.setIfInBounds_toArray, List.set_cons_zero, List.set_cons_succ, i64_w, i32_w]
                            rfl
                          refine pure_ (i := 3) (N := some 68) (v := ?_) (a' := ?_) #[true, true, true, true, false, false, false, false, false, false] rfl rfl (any_of HT_.out (by kernel_rfl)) (fun _ _ _ h => h) (Or.inl ⟨by rfl, ?_⟩) ?_ ?_
                          rotate_left
                          · intro w'
                            go_simp
                            with_reducible rfl
                          rotate_left
                          · simp only [Act.put, List.setIfInBounds_toArray, List.set_cons_zero, List.set_cons_succ, i64_w, i32_w]
                            rfl
                          refine pure_ (i := 4) (N := some 69) (v := ?_) (a' := ?_) #[true, true, true, true, true, false, false, false, false, false] rfl rfl (any_of HT_.out (by kernel_rfl)) (fun _ _ _ h => h) (Or.inl ⟨by rfl, ?_⟩) ?_ ?_
                          rotate_left
                          · intro w'
                            go_simp
                            with_reducible rfl
                          rotate_left
                          · simp only [Act.put, List.setIfInBounds_toArray, List.set_cons_zero, List.set_cons_succ, i64_w, i32_w]
                            rfl
                          refine pure_ (i := 5) (N := some 70) (v := ?_) (a' := ?_) #[true, true, true, true, true, true, false, false, false, false] rfl rfl (any_of HT_.out (by kernel_rfl)) (fun _ _ _ h => h) (Or.inl ⟨by rfl, ?_⟩) ?_ ?_
                          rotate_left
                          · intro w'
                            go_simp
                            with_reducible rfl
                          rotate_left
                          · simp only [Act.put, List.setIfInBounds_toArray, List.set_cons_zero, List.set_cons_succ, i64_w, i32_w]
                            rfl
                          refine pure_ (i := 6) (N := some 71) (v := ?_) (a' := ?_) #[true, true, true, true, true, true, true, false, false, false] rfl rfl (any_of HT_.out (by kernel_rfl)) (fun _ _ _ h => h) (Or.inl ⟨by rfl, ?_⟩) ?_ ?_
                          rotate_left
                          · intro w'
                            go_simp
                            with_reducible rfl
                          rotate_left
                          · simp only [Act.put, List.setIfInBounds_toArray, List.set_cons_zero, List.set_cons_succ, i64_w, i32_w]
                            rfl
                          refine one_ (i := 7) (N := none) #[true, true, true, true, true, true, true, true, false, false] rfl rfl (one_of HT_.out (by kernel_rfl)) (by decide) (fun K hK => ?_)
                          have hs58 : w57.cell? ⟨gb1084, 0, none⟩ = some (.int .i64 0) := (blk_cell BK1084.out 0).trans rfl
                          have hfs58 := blk_frozen BK1084.out 0
                          have hs59 : w57.cell? ⟨gb1084, 1, none⟩ = some (.string (⟨#[]⟩ : ByteArray)) := (blk_cell BK1084.out 1).trans rfl
                          have hfs59 := blk_frozen BK1084.out 1
                          refine skip_ (w1 := ?_) (by rfl) rfl ?_ ?_
                          rotate_left
                          · go_simp
                            rfl
                          refine hK.out _ _ trivial (fun hHeld => ?_)
                          clear hK K
                          refine pure_ (i := 8) (N := some 3) (v := ?_) (a' := ?_) #[true, true, true, true, true, true, true, true, true, false] rfl rfl (any_of HT_.out (by kernel_rfl)) (fun _ _ _ h => h) (Or.inl ⟨by rfl, ?_⟩) ?_ ?_
                          rotate_left
                          · intro w'
                            go_simp
                            with_reducible rfl
                          rotate_left
                          · simp only [Act.put, List.setIfInBounds_toArray, List.set_cons_zero, List.set_cons_succ, i64_w, i32_w]
                            rfl
                          refine pure_ (i := 9) (N := some 4) (v := ?_) (a' := ?_) #[true, true, true, true, true, true, true, true, true, true] rfl rfl (any_of HT_.out (by kernel_rfl)) (fun _ _ _ h => h) (Or.inl ⟨by rfl, ?_⟩) ?_ ?_
                          rotate_left
                          · intro w'
                            go_simp
                            with_reducible rfl
                          rotate_left
                          · simp only [Act.put, List.setIfInBounds_toArray, List.set_cons_zero, List.set_cons_succ, i64_w, i32_w]
                            rfl
                          refine done_ (done_of HT_.out (by kernel_rfl)) ?_
                          try go_wp2
                          refine bodyPost_ret (results_ctt rfl _ _ gb1084 230 #[.int .i64 1, .string (a0.extract 0 (x8_1 : Int).toNat)] (0, 0) _ rfl (by (with_reducible repeat (first | refine blk_drewN ?_ _ | refine blk_drew ?_ | refine blk_alloc ?_ _)); refine blk_put (cs := #[.int .i64 1, .string (⟨#[]⟩ : ByteArray)]) ?_ 1 _ rfl; (with_reducible repeat (first | refine blk_drewN ?_ _ | refine blk_drew ?_ | refine blk_alloc ?_ _)); refine blk_put (cs := #[.int .i64 0, .string (⟨#[]⟩ : ByteArray)]) ?_ 0 _ rfl; (with_reducible repeat (first | refine blk_drewN ?_ _ | refine blk_drew ?_ | refine blk_alloc ?_ _)); exact BK1084.out) Tryz.underlying230 rfl (by kernel_rfl)) rfl ?_
                          exact ⟨eqe, bw⟩
                        · rw [if_neg c54] at H
                          exact absurd H (by simp)
                      · rw [if_neg c53] at H
                        exact absurd H (by simp)
  · rw [if_neg c2] at H
    exact absurd H (by simp)
end Go.Proofs.YtjohcncekfcgpaaGreatDoor.P
end
section
namespace Go.Proofs.YtjohcncekfcgpaaGreatDoor.P
open Go.RowKit Go.Proofs.YtjohcncekfcgpaaGreatDoorW.PrintWords Go.Proofs.YtjohcncekfcgpaaGreatDoorW.PrintLast Go.Proofs.YtjohcncekfcgpaaGreatDoorW.PrintMore
attribute [local go_sem] max2_int min2_int max_two min_two max_three min_three max_four min_four
set_option linter.unusedVariables false
set_option linter.unusedSimpArgs false
def lex_Scan.l0 : Nat → ByteArray → List (S230) → Option ((List (S230)) × Int)
  | 0, _, _ => none
  | k + 1, x0, x4 => if x0.toList = ([] : List UInt8) then (some (x4, 0)) else ((lex_next.f k x0).bind fun bt1095 => (if bt1095.2.2.2 = 0 then (if bt1095.1 = 0 then (lex_Scan.l0 k bt1095.2.2.1 x4) else (if x4.length < 5864062014805 then (lex_Scan.l0 k bt1095.2.2.1 (x4 ++ [(⟨bt1095.1, bt1095.2.1⟩ : S230)])) else (none))) else (some (([] : List (S230)), bt1095.2.2.2))))
def lex_Scan.f (k : Nat) (a0 : ByteArray) : Option ((List (S230)) × Int) := lex_Scan.l0 k a0 ([] : List (S230))
theorem lex_Scan.mono_l : ∀ k, (∀ y0 y1, LeO (lex_Scan.l0 k y0 y1) (lex_Scan.l0 (k + 1) y0 y1))
  | 0 => fun _ _ r h => by simp [lex_Scan.l0] at h
  | k + 1 => by
    have ih0 := lex_Scan.mono_l k
    · intro y0 y1
      unfold lex_Scan.l0
      repeat' first
      | (with_reducible exact ih0 _ _)
      | (with_reducible exact lex_next.mono _ _)
      | (with_reducible exact LeO.refl _)
      | (with_reducible exact LeO.none _)
      | (with_reducible refine LeO.ite ?_ ?_)
      | (with_reducible refine LeO.bind ?_ (fun _ => ?_))
      | exact ih0 _ _
      | exact lex_next.mono _ _
      | exact LeO.none _
      | refine LeO.ite ?_ ?_
      | refine LeO.bind ?_ (fun _ => ?_)
theorem lex_Scan.mono : ∀ a0 k, LeO (lex_Scan.f k a0) (lex_Scan.f (k + 1) a0) := by
  intro a0 k
  have ih0 := lex_Scan.mono_l k
  unfold lex_Scan.f
  repeat' first
      | (with_reducible exact ih0 _ _)
      | (with_reducible exact lex_next.mono _ _)
      | (with_reducible exact LeO.refl _)
      | (with_reducible exact LeO.none _)
      | (with_reducible refine LeO.ite ?_ ?_)
      | (with_reducible refine LeO.bind ?_ (fun _ => ?_))
      | exact ih0 _ _
      | exact lex_next.mono _ _
      | exact LeO.none _
      | refine LeO.ite ?_ ?_
      | refine LeO.bind ?_ (fun _ => ?_)
set_option maxHeartbeats 8000000 in
set_option maxRecDepth 100000 in
theorem lex_Scan.calls (k : Nat) (a0 : ByteArray) (r1 : List (S230)) (r2 : Int) (w : World) (h : lex_Scan.f k a0 = some (r1, r2)) :
    Calls Tryz.prog 188 #[.string a0] w fun e w' => ∃ v0_ : Value, e = .returned (.tuple #[v0_, .int .i64 r2]) ∧ Kd.R k230 230 w' w.heap.size (fun _ => True) v0_ r1 ∧ Below w.heap.size w w' := by
  have hu230 := Tryz.underlying230
  have HB := Aside0.mk (Below.refl w.heap.size w)
  have H : (lex_Scan.l0 k a0 ([] : List (S230))) = some (r1, r2) := h
  clear h
  have H' := Aside0.mk H
  clear H
  go_enter Tryz.func188, Tryz.ntmps188
  go_wp2
  go_loopg [0, 4] k (fun kq v0 v4 w' => ∃ (x0_1 : ByteArray) (x4_1 : List (S230)), v0 = .string x0_1 ∧ Aside0 (lex_Scan.l0 kq x0_1 x4_1 = some (r1, r2)) ∧ Aside0 (kq ≤ k) ∧ Aside0 (Kd.R k230 230 w' w.heap.size (fun _ => True) v4 x4_1) ∧ Aside0 (Below w.heap.size w w'))
  case atStart => exact ⟨(a0), (([] : List (S230))), eqv, H', ⟨Nat.le_refl _⟩, ⟨by first | exact Kd.R_nil _ _ _ _ _ | exact Kd.N_nil _ _ _ _ _ | exact Kd.V_nil _ _ _ _ _ | exact Kd.Q_nil _ _ _ _ _ | exact Kd.S_nil _ _ _ _ _⟩, ⟨bw⟩⟩
  case round =>
    clear H'
    try clear c1
    obtain ⟨x0_1, x4_1, rfl, HA, HK1, HO_4, HB⟩ := hrel
    cases gk with
    | zero => exact absurd HA.out (by simp [lex_Scan.l0])
    | succ k1 =>
      have H := HA.out
      clear HA
      simp only [lex_Scan.l0] at H
      by_cases c2 : x0_1.toList = ([] : List UInt8)
      · rw [if_pos c2] at H
        have c2b0 : (x0_1.toList == ([] : List UInt8)) = true := beq_iff_eq.mpr c2
        have c2b1 : (x0_1.toList != ([] : List UInt8)) = false := bne_eq_false_iff_eq.mpr c2
        have c2bE : (x0_1.toList).isEmpty = true := List.isEmpty_iff.mpr c2
        clear c2
        simp only [Option.some.injEq, Prod.mk.injEq] at H
        obtain ⟨rfl, rfl⟩ := H
        go_wp2
        go_ret2
        exact ⟨_, eqe, kr HO_4, bw⟩
      · rw [if_neg c2] at H
        have c2b0 : (x0_1.toList == ([] : List UInt8)) = false := beq_eq_false_iff_ne.mpr c2
        have c2b1 : (x0_1.toList != ([] : List UInt8)) = true := bne_iff_ne.mpr c2
        have c2bE : (x0_1.toList).isEmpty = false := List.isEmpty_eq_false_iff.mpr c2
        replace H := Option.bind_eq_some_iff.mp H
        obtain ⟨⟨t1095, t1096, t1097, t1098⟩, A30, H⟩ := H
        replace H : (if t1098 = 0 then (if t1095 = 0 then (lex_Scan.l0 k1 t1097 x4_1) else (if x4_1.length < 5864062014805 then (lex_Scan.l0 k1 t1097 (x4_1 ++ [(⟨t1095, t1096⟩ : S230)])) else (none))) else (some (([] : List (S230)), t1098))) = some (r1, r2) := H
        have A3 := Aside0.mk A30
        clear A30
        by_cases c4 : t1098 = 0
        · rw [if_pos c4] at H
          have c4b0 : (t1098 == 0) = true := beq_iff_eq.mpr c4
          have c4b1 : (t1098 != 0) = false := bne_eq_false_iff_eq.mpr c4
          clear c4
          by_cases c5 : t1095 = 0
          · rw [if_pos c5] at H
            have c5b0 : (t1095 == 0) = true := beq_iff_eq.mpr c5
            have c5b1 : (t1095 != 0) = false := bne_eq_false_iff_eq.mpr c5
            clear c5
            have H' := Aside0.mk H
            clear H
            go_wp2_with (first | ((with_reducible refine gate_callee (f := 225) rfl ?_); refine goesM (some 12) Tryz.func225 #[.string x0_1] ?_; (with_reducible refine (lex_next.calls k1 x0_1 t1095 t1096 t1097 t1098 _ A3.out).mono ?_); rintro e w6 ⟨rfl, hb⟩; refine ⟨_, rfl, ?_⟩; have n0_ := Aside0.mk (Kd.R_below (kr HO_4) hb); have n1_ := Aside0.mk (below_step bw hb); clear HO_4; clear HB; have HO_4 := n0_; have HB := n1_; clear n0_ n1_; (try clear hb); (try clear hb2); (try clear hk); (try clear hi)) | ((with_reducible refine gate_dst (N := 5) rfl ?_); refine boxE 5 #[.int .i64 0, .string (⟨#[]⟩ : ByteArray)] 230 ?_; intro gb1099 hg w7 hbox hb; have n0_ := Aside0.mk (Kd.R_below (Kd.R_elderB (kr HO_4) gb1099 (Nat.le_of_eq hg.symm)) hb); have n1_ := Aside0.mk (below_step bw hb); have n2_ := Aside0.mk (hbox); have n3_ := Aside0.mk ((bz hg : w.heap.size ≤ gb1099)); have n4_ := Aside0.mk ((bz hg : w.heap.size ≤ gb1099)); clear HO_4; clear HB; have HO_4 := n0_; have HB := n1_; have BK1099 := n2_; have GW1099 := n3_; have GE1099 := n4_; clear n0_ n1_ n2_ n3_ n4_; clear hb hbox hg; have hcz8_0 : w7.cell? ⟨gb1099, 0, none⟩ = some (.int .i64 0) := (blk_cell BK1099.out 0).trans rfl; have hcz8_1 : w7.cell? ⟨gb1099, 1, none⟩ = some (.string (⟨#[]⟩ : ByteArray)) := (blk_cell BK1099.out 1).trans rfl; have hfz8_0 := blk_frozen BK1099.out 0; have hfz8_1 := blk_frozen BK1099.out 1))
            go_roundg k1
            case measure => have := HK1.out; omega
            case rel => exact ⟨(t1097), (x4_1), eqv, H', ⟨by have := HK1.out; omega⟩, ⟨by (with_reducible repeat (first | apply Kd.R_alloc | apply Kd.R_drewN | apply Kd.R_drew)); exact Kd.R_mono (Kd.R_far (p := ⟨gb1099, 1, none⟩) (Kd.R_far (p := ⟨gb1099, 0, none⟩) (Kd.R_mono HO_4.out (fun k_ hk => (⟨hk, hk.2⟩ : _ ∧ k_ ≠ gb1099))) (fun _ hk => hk.2) (.int .i64 t1095)) (fun _ hk => hk.2) (.string t1096)) (fun _ hk => trivial)⟩, ⟨bw⟩⟩
          · rw [if_neg c5] at H
            have c5b0 : (t1095 == 0) = false := beq_eq_false_iff_ne.mpr c5
            have c5b1 : (t1095 != 0) = true := bne_iff_ne.mpr c5
            by_cases c9 : x4_1.length < 5864062014805
            · rw [if_pos c9] at H
              have LMc9 := Aside0.mk c9
              clear c9
              obtain ⟨y1100, hy1100⟩ : ∃ y_ : List (S230), y_ = (x4_1 ++ [(⟨t1095, t1096⟩ : S230)]) := ⟨_, rfl⟩
              replace H : (lex_Scan.l0 k1 t1097 y1100) = some (r1, r2) := by first | (rw [hy1100]; with_reducible exact H) | (have H2_ := (Option.bind_some _ _).symm.trans H; rw [hy1100]; with_reducible exact H2_) | (have H2_ := (Option.bind_some _ _).symm.trans H; with_reducible exact H2_) | with_reducible exact H | (rw [hy1100]; exact H) | exact H
              have Ny1100 := Aside0.mk hy1100
              clear hy1100
              have H' := Aside0.mk H
              clear H
              go_wp2_with (first | ((with_reducible refine gate_callee (f := 225) rfl ?_); refine goesM (some 12) Tryz.func225 #[.string x0_1] ?_; (with_reducible refine (lex_next.calls k1 x0_1 t1095 t1096 t1097 t1098 _ A3.out).mono ?_); rintro e w10 ⟨rfl, hb⟩; refine ⟨_, rfl, ?_⟩; have n0_ := Aside0.mk (Kd.R_below (kr HO_4) hb); have n1_ := Aside0.mk (below_step bw hb); clear HO_4; clear HB; have HO_4 := n0_; have HB := n1_; clear n0_ n1_; (try clear hb); (try clear hb2); (try clear hk); (try clear hi)) | ((with_reducible refine gate_dst (N := 5) rfl ?_); refine boxE 5 #[.int .i64 0, .string (⟨#[]⟩ : ByteArray)] 230 ?_; intro gb1099 hg w11 hbox hb; have n0_ := Aside0.mk (Kd.R_below (Kd.R_elderB (kr HO_4) gb1099 (Nat.le_of_eq hg.symm)) hb); have n1_ := Aside0.mk (below_step bw hb); have n2_ := Aside0.mk (hbox); have n3_ := Aside0.mk ((bz hg : w.heap.size ≤ gb1099)); have n4_ := Aside0.mk ((bz hg : w.heap.size ≤ gb1099)); clear HO_4; clear HB; have HO_4 := n0_; have HB := n1_; have BK1099 := n2_; have GW1099 := n3_; have GE1099 := n4_; clear n0_ n1_ n2_ n3_ n4_; clear hb hbox hg; have hcz12_0 : w11.cell? ⟨gb1099, 0, none⟩ = some (.int .i64 0) := (blk_cell BK1099.out 0).trans rfl; have hcz12_1 : w11.cell? ⟨gb1099, 1, none⟩ = some (.string (⟨#[]⟩ : ByteArray)) := (blk_cell BK1099.out 1).trans rfl; have hfz12_0 := blk_frozen BK1099.out 0; have hfz12_1 := blk_frozen BK1099.out 1) | ((with_reducible refine gate_builtin (b := .append) (xs := #[.tmp 22, .tmp 24]) rfl ?_); at_builtin; refine Kd.R_append k230 (w0 := w) w.heap.size rfl (.tmp 22) (.tmp 24) 203 230 (.agg #[(.int .i64 0), (.string ⟨#[]⟩)]) 24 rfl Tryz.underlying203 info230 rfl (by decide) (by omega) u4 x4_1 (⟨t1095, t1096⟩ : S230) [.int .i64 t1095, .string t1096] (fun k_ => k_ ≠ gb1099) (fun _ => False) rfl (by first | (go_simp; done) | (go_simp; rfl)) ?aP (fun _ hk => hk.elim) ?aF ?aO ?aB ?aS ?aL ?_; (case aP => exact k230_mkM _ _ _ (⟨t1095, t1096⟩ : S230)); (case aB => exact bw); (case aF => exact (fun k_ hk => Kd.freshB (g := gb1099) (o := .cells #[.int .i64 t1095, .string t1096] 230 (0, 0)) (by (with_reducible repeat (first | refine blk_drewN ?_ _ | refine blk_drew ?_ | refine blk_alloc ?_ _)); refine blk_put (cs := #[.int .i64 t1095, .string (⟨#[]⟩ : ByteArray)]) ?_ 1 _ rfl; (with_reducible repeat (first | refine blk_drewN ?_ _ | refine blk_drew ?_ | refine blk_alloc ?_ _)); refine blk_put (cs := #[.int .i64 0, .string (⟨#[]⟩ : ByteArray)]) ?_ 0 _ rfl; (with_reducible repeat (first | refine blk_drewN ?_ _ | refine blk_drew ?_ | refine blk_alloc ?_ _)); exact BK1099.out) k_ hk)); (case aO => exact (by (with_reducible repeat (first | apply Kd.R_alloc | apply Kd.R_drewN | apply Kd.R_drew)); exact Kd.R_mono (Kd.R_far (p := ⟨gb1099, 1, none⟩) (Kd.R_far (p := ⟨gb1099, 0, none⟩) (Kd.R_mono HO_4.out (fun k_ hk => (⟨hk, hk.2⟩ : _ ∧ k_ ≠ gb1099))) (fun _ hk => hk.2) (.int .i64 t1095)) (fun _ hk => hk.2) (.string t1096)) (fun _ hk => hk.1.2))); (case aS => exact (below_size bw)); (case aL => have := LMc9.out; omega); intro v1101 w13 ho hb hg hat; rw [← Ny1100.out] at ho; have n0_ := Aside0.mk (blk_grown (g := gb1099) (o := .cells #[.int .i64 t1095, .string t1096] 230 (0, 0)) (by (with_reducible repeat (first | refine blk_drewN ?_ _ | refine blk_drew ?_ | refine blk_alloc ?_ _)); refine blk_put (cs := #[.int .i64 t1095, .string (⟨#[]⟩ : ByteArray)]) ?_ 1 _ rfl; (with_reducible repeat (first | refine blk_drewN ?_ _ | refine blk_drew ?_ | refine blk_alloc ?_ _)); refine blk_put (cs := #[.int .i64 0, .string (⟨#[]⟩ : ByteArray)]) ?_ 0 _ rfl; (with_reducible repeat (first | refine blk_drewN ?_ _ | refine blk_drew ?_ | refine blk_alloc ?_ _)); exact BK1099.out) hg (Kd.R_away HO_4.out (fun _ hk => hk.2))); have n1_ := Aside0.mk (hb); have n2_ := Aside0.mk (ho); clear BK1099; clear HB; clear HO_4; have BK1099 := n0_; have HB := n1_; have HO1102 := n2_; clear n0_ n1_ n2_; clear ho hb hg hat))
              go_roundg k1
              case measure => have := HK1.out; omega
              case rel => exact ⟨(t1097), (y1100), eqv, H', ⟨by have := HK1.out; omega⟩, ⟨by (with_reducible repeat (first | apply Kd.R_alloc | apply Kd.R_drewN | apply Kd.R_drew)); exact Kd.R_mono HO1102.out (fun _ hk => trivial)⟩, ⟨bw⟩⟩
            · rw [if_neg c9] at H
              exact absurd H (by simp)
        · rw [if_neg c4] at H
          have c4b0 : (t1098 == 0) = false := beq_eq_false_iff_ne.mpr c4
          have c4b1 : (t1098 != 0) = true := bne_iff_ne.mpr c4
          simp only [Option.some.injEq, Prod.mk.injEq] at H
          obtain ⟨rfl, rfl⟩ := H
          go_wp2_with (first | ((with_reducible refine gate_callee (f := 225) rfl ?_); refine goesM (some 12) Tryz.func225 #[.string x0_1] ?_; (with_reducible refine (lex_next.calls k1 x0_1 t1095 t1096 t1097 t1098 _ A3.out).mono ?_); rintro e w14 ⟨rfl, hb⟩; refine ⟨_, rfl, ?_⟩; have n0_ := Aside0.mk (Kd.R_below (kr HO_4) hb); have n1_ := Aside0.mk (below_step bw hb); clear HO_4; clear HB; have HO_4 := n0_; have HB := n1_; clear n0_ n1_; (try clear hb); (try clear hb2); (try clear hk); (try clear hi)) | ((with_reducible refine gate_dst (N := 5) rfl ?_); refine boxE 5 #[.int .i64 0, .string (⟨#[]⟩ : ByteArray)] 230 ?_; intro gb1099 hg w15 hbox hb; have n0_ := Aside0.mk (Kd.R_below (Kd.R_elderB (kr HO_4) gb1099 (Nat.le_of_eq hg.symm)) hb); have n1_ := Aside0.mk (below_step bw hb); have n2_ := Aside0.mk (hbox); have n3_ := Aside0.mk ((bz hg : w.heap.size ≤ gb1099)); have n4_ := Aside0.mk ((bz hg : w.heap.size ≤ gb1099)); clear HO_4; clear HB; have HO_4 := n0_; have HB := n1_; have BK1099 := n2_; have GW1099 := n3_; have GE1099 := n4_; clear n0_ n1_ n2_ n3_ n4_; clear hb hbox hg; have hcz16_0 : w15.cell? ⟨gb1099, 0, none⟩ = some (.int .i64 0) := (blk_cell BK1099.out 0).trans rfl; have hcz16_1 : w15.cell? ⟨gb1099, 1, none⟩ = some (.string (⟨#[]⟩ : ByteArray)) := (blk_cell BK1099.out 1).trans rfl; have hfz16_0 := blk_frozen BK1099.out 0; have hfz16_1 := blk_frozen BK1099.out 1))
          go_ret2
          exact ⟨_, eqe, by first | exact Kd.R_nil _ _ _ _ _ | exact Kd.N_nil _ _ _ _ _ | exact Kd.V_nil _ _ _ _ _ | exact Kd.Q_nil _ _ _ _ _ | exact Kd.S_nil _ _ _ _ _, bw⟩
end Go.Proofs.YtjohcncekfcgpaaGreatDoor.P
end
section
namespace Go.Proofs.YtjohcncekfcgpaaGreatDoor.P
open Go.RowKit Go.Proofs.YtjohcncekfcgpaaGreatDoorW.PrintWords Go.Proofs.YtjohcncekfcgpaaGreatDoorW.PrintLast Go.Proofs.YtjohcncekfcgpaaGreatDoorW.PrintMore
attribute [local go_sem] max2_int min2_int max_two min_two max_three min_three max_four min_four
set_option linter.unusedVariables false
set_option linter.unusedSimpArgs false
def mbx_stops.f (a0_0 : Int) (a0_1 : ByteArray) : Option (Bool) := if a0_0 = 3 then ((strings_Contains.f (⟨#[44, 59, 58, 60, 62]⟩ : ByteArray) a0_1).bind fun t1201 => (some t1201)) else (some false)
set_option maxHeartbeats 8000000 in
set_option maxRecDepth 100000 in
theorem mbx_stops.calls (a0_0 : Int) (a0_1 : ByteArray) (r : Bool) (w : World) (h : mbx_stops.f a0_0 a0_1 = some r) (hGU : GU w := by exact gUT) :
    Calls Tryz.prog 266 #[.agg #[.int .i64 a0_0, .string a0_1]] w fun e w' => e = .returned (.bool r) ∧ Below w.heap.size w w' := by
  have hu230 := Tryz.underlying230
  have HB := Aside0.mk (Below.refl w.heap.size w)
  have H : (if a0_0 = 3 then ((strings_Contains.f (⟨#[44, 59, 58, 60, 62]⟩ : ByteArray) a0_1).bind fun t1201 => (some t1201)) else (some false)) = some r := h
  clear h
  by_cases c2 : a0_0 = 3
  · rw [if_pos c2] at H
    have c2b0 : (a0_0 == 3) = true := beq_iff_eq.mpr c2
    have c2b1 : (a0_0 != 3) = false := bne_eq_false_iff_eq.mpr c2
    clear c2
    replace H := Option.bind_eq_some_iff.mp H
    obtain ⟨t1201, A30, H⟩ := H
    replace H : (some t1201) = some r := H
    have A3 := Aside0.mk A30
    clear A30
    obtain rfl := Option.some.inj H
    go_enter Tryz.func266, Tryz.ntmps266
    go_wp2_with (first | ((with_reducible refine gate_dst (N := 1) rfl ?_); refine boxE 1 #[.int .i64 a0_0, .string a0_1] 230 ?_; intro gb1200 hg w4 hbox hb; have n0_ := Aside0.mk (below_step bw hb); have n1_ := Aside0.mk (hbox); have n2_ := Aside0.mk ((bz hg : w.heap.size ≤ gb1200)); have n3_ := Aside0.mk ((bz hg : w.heap.size ≤ gb1200)); clear HB; have HB := n0_; have BK1200 := n1_; have GW1200 := n2_; have GE1200 := n3_; clear n0_ n1_ n2_ n3_; clear hb hbox hg; have hcz5_0 : w4.cell? ⟨gb1200, 0, none⟩ = some (.int .i64 a0_0) := (blk_cell BK1200.out 0).trans rfl; have hcz5_1 : w4.cell? ⟨gb1200, 1, none⟩ = some (.string a0_1) := (blk_cell BK1200.out 1).trans rfl; have hfz5_0 := blk_frozen BK1200.out 0; have hfz5_1 := blk_frozen BK1200.out 1) | (go_at_call 122; (with_reducible refine (strings_Contains.calls (⟨#[44, 59, 58, 60, 62]⟩ : ByteArray) a0_1 t1201 _ A3.out).mono ?_); rintro e w' ⟨rfl, ⟨nd, rfl⟩⟩))
    go_ret
    exact ⟨eqe, bw⟩
  · rw [if_neg c2] at H
    have c2b0 : (a0_0 == 3) = false := beq_eq_false_iff_ne.mpr c2
    have c2b1 : (a0_0 != 3) = true := bne_iff_ne.mpr c2
    obtain rfl := Option.some.inj H
    go_enter Tryz.func266, Tryz.ntmps266
    go_wp2_with (first | ((with_reducible refine gate_dst (N := 1) rfl ?_); refine boxE 1 #[.int .i64 a0_0, .string a0_1] 230 ?_; intro gb1200 hg w6 hbox hb; have n0_ := Aside0.mk (below_step bw hb); have n1_ := Aside0.mk (hbox); have n2_ := Aside0.mk ((bz hg : w.heap.size ≤ gb1200)); have n3_ := Aside0.mk ((bz hg : w.heap.size ≤ gb1200)); clear HB; have HB := n0_; have BK1200 := n1_; have GW1200 := n2_; have GE1200 := n3_; clear n0_ n1_ n2_ n3_; clear hb hbox hg; have hcz7_0 : w6.cell? ⟨gb1200, 0, none⟩ = some (.int .i64 a0_0) := (blk_cell BK1200.out 0).trans rfl; have hcz7_1 : w6.cell? ⟨gb1200, 1, none⟩ = some (.string a0_1) := (blk_cell BK1200.out 1).trans rfl; have hfz7_0 := blk_frozen BK1200.out 0; have hfz7_1 := blk_frozen BK1200.out 1))
    go_ret
    exact ⟨eqe, bw⟩
end Go.Proofs.YtjohcncekfcgpaaGreatDoor.P
end
section
namespace Go.Proofs.YtjohcncekfcgpaaGreatDoor.P
open Go.RowKit Go.Proofs.YtjohcncekfcgpaaGreatDoorW.PrintWords Go.Proofs.YtjohcncekfcgpaaGreatDoorW.PrintLast Go.Proofs.YtjohcncekfcgpaaGreatDoorW.PrintMore
attribute [local go_sem] max2_int min2_int max_two min_two max_three min_three max_four min_four
set_option linter.unusedVariables false
set_option linter.unusedSimpArgs false
def msg_Message_Lines.l0 : Nat → List ByteArray → ByteArray → Option (List ByteArray)
  | 0, _, _ => none
  | k + 1, x3, x4 => if x4.toList = ([] : List UInt8) then (some x3) else ((strings_Cut.f x4 (⟨#[13, 10]⟩ : ByteArray)).bind fun bt133 => (if x3.length < 8796093022208 then (msg_Message_Lines.l0 k (x3 ++ [bt133.1]) bt133.2.1) else (none)))
def msg_Message_Lines.f (k : Nat) (l0_0 : List (S47)) (a0_1 : ByteArray) : Option (List ByteArray) := msg_Message_Lines.l0 k ([] : List ByteArray) a0_1
theorem msg_Message_Lines.mono_l : ∀ k, (∀ y0 y1, LeO (msg_Message_Lines.l0 k y0 y1) (msg_Message_Lines.l0 (k + 1) y0 y1))
  | 0 => fun _ _ r h => by simp [msg_Message_Lines.l0] at h
  | k + 1 => by
    have ih0 := msg_Message_Lines.mono_l k
    · intro y0 y1
      unfold msg_Message_Lines.l0
      repeat' first
      | (with_reducible exact ih0 _ _)
      | (with_reducible exact LeO.refl _)
      | (with_reducible exact LeO.none _)
      | (with_reducible refine LeO.ite ?_ ?_)
      | (with_reducible refine LeO.bind ?_ (fun _ => ?_))
      | exact ih0 _ _
      | exact LeO.none _
      | refine LeO.ite ?_ ?_
      | refine LeO.bind ?_ (fun _ => ?_)
theorem msg_Message_Lines.mono : ∀ a0 a1 k, LeO (msg_Message_Lines.f k a0 a1) (msg_Message_Lines.f (k + 1) a0 a1) := by
  intro a0 a1 k
  have ih0 := msg_Message_Lines.mono_l k
  unfold msg_Message_Lines.f
  repeat' first
      | (with_reducible exact ih0 _ _)
      | (with_reducible exact LeO.refl _)
      | (with_reducible exact LeO.none _)
      | (with_reducible refine LeO.ite ?_ ?_)
      | (with_reducible refine LeO.bind ?_ (fun _ => ?_))
      | exact ih0 _ _
      | exact LeO.none _
      | refine LeO.ite ?_ ?_
      | refine LeO.bind ?_ (fun _ => ?_)
set_option maxHeartbeats 8000000 in
set_option maxRecDepth 100000 in
theorem msg_Message_Lines.calls (k : Nat) (A0_0 : Option Addr) (c0_0 : Nat) (l0_0 : List (S47)) (a0_1 : ByteArray) (r : List ByteArray) (w : World) (hr0_0 : Kd.C k47 w A0_0 l0_0.length l0_0) (hc0_0 : l0_0.length ≤ c0_0) (h : msg_Message_Lines.f k l0_0 a0_1 = some r) (hGU : GU w := by exact gUT) :
    Calls Tryz.prog 22 #[.agg #[.slice A0_0 l0_0.length c0_0, .string a0_1]] w fun e w' => ∃ v0_ : Value, e = .returned (v0_) ∧ Kd.R Kd.string 9 w' w.heap.size (fun _ => True) v0_ r ∧ Below w.heap.size w w' := by
  have hu25 := Tryz.underlying25
  have HR0_0 := Aside0.mk hr0_0
  have HC0_0 := Aside0.mk hc0_0
  clear hr0_0 hc0_0
  have HB := Aside0.mk (Below.refl w.heap.size w)
  have H : (msg_Message_Lines.l0 k ([] : List ByteArray) a0_1) = some r := h
  clear h
  have H' := Aside0.mk H
  clear H
  go_enter Tryz.func22, Tryz.ntmps22
  go_wp2_with (first | ((with_reducible refine gate_dst (N := 1) rfl ?_); refine boxE 1 #[.slice A0_0 l0_0.length c0_0, .string a0_1] 25 ?_; intro gb132 hg w2 hbox hb; have n0_ := Aside0.mk (below_step bw hb); have n1_ := Aside0.mk (hbox); have n2_ := Aside0.mk ((bz hg : w.heap.size ≤ gb132)); have n3_ := Aside0.mk ((bz hg : w.heap.size ≤ gb132)); clear HB; have HB := n0_; have BK132 := n1_; have GW132 := n2_; have GE132 := n3_; clear n0_ n1_ n2_ n3_; clear hb hbox hg; have hcz3_0 : w2.cell? ⟨gb132, 0, none⟩ = some (.slice A0_0 l0_0.length c0_0) := (blk_cell BK132.out 0).trans rfl; have hcz3_1 : w2.cell? ⟨gb132, 1, none⟩ = some (.string a0_1) := (blk_cell BK132.out 1).trans rfl; have hfz3_0 := blk_frozen BK132.out 0; have hfz3_1 := blk_frozen BK132.out 1))
  go_loopg [3, 4] k (fun kq v3 v4 w' => ∃ (x3_1 : List ByteArray) (x4_1 : ByteArray), v4 = .string x4_1 ∧ Aside0 (msg_Message_Lines.l0 kq x3_1 x4_1 = some r) ∧ Aside0 (kq ≤ k) ∧ Aside0 (Kd.R Kd.string 9 w' w.heap.size (fun _ => True) v3 x3_1) ∧ Aside0 (w'.heap[gb132]? = some (.cells #[(.slice A0_0 l0_0.length c0_0), .string a0_1] 25 (0, 0))) ∧ Aside0 (Below w.heap.size w w'))
  case atStart => exact ⟨(([] : List ByteArray)), (a0_1), eqv, H', ⟨Nat.le_refl _⟩, ⟨by first | exact Kd.R_nil _ _ _ _ _ | exact Kd.N_nil _ _ _ _ _ | exact Kd.V_nil _ _ _ _ _ | exact Kd.Q_nil _ _ _ _ _ | exact Kd.S_nil _ _ _ _ _⟩, ⟨bk⟩, ⟨bw⟩⟩
  case round =>
    clear H'
    try clear c2
    try clear p2
    try clear hcz3_0
    try clear hcz3_1
    try clear hfz3_0
    try clear hfz3_1
    obtain ⟨x3_1, x4_1, rfl, HA, HK1, HO_3, BK132, HB⟩ := hrel
    cases gk with
    | zero => exact absurd HA.out (by simp [msg_Message_Lines.l0])
    | succ k1 =>
      have H := HA.out
      clear HA
      simp only [msg_Message_Lines.l0] at H
      by_cases c4 : x4_1.toList = ([] : List UInt8)
      · rw [if_pos c4] at H
        have c4b0 : (x4_1.toList == ([] : List UInt8)) = true := beq_iff_eq.mpr c4
        have c4b1 : (x4_1.toList != ([] : List UInt8)) = false := bne_eq_false_iff_eq.mpr c4
        have c4bE : (x4_1.toList).isEmpty = true := List.isEmpty_iff.mpr c4
        clear c4
        obtain rfl := Option.some.inj H
        go_wp2
        go_ret
        exact ⟨_, eqe, kr HO_3, bw⟩
      · rw [if_neg c4] at H
        have c4b0 : (x4_1.toList == ([] : List UInt8)) = false := beq_eq_false_iff_ne.mpr c4
        have c4b1 : (x4_1.toList != ([] : List UInt8)) = true := bne_iff_ne.mpr c4
        have c4bE : (x4_1.toList).isEmpty = false := List.isEmpty_eq_false_iff.mpr c4
        replace H := Option.bind_eq_some_iff.mp H
        obtain ⟨⟨t133, t134, t135⟩, A50, H⟩ := H
        replace H : (if x3_1.length < 8796093022208 then (msg_Message_Lines.l0 k1 (x3_1 ++ [t133]) t134) else (none)) = some r := H
        have A5 := Aside0.mk A50
        clear A50
        by_cases c6 : x3_1.length < 8796093022208
        · rw [if_pos c6] at H
          have LMc6 := Aside0.mk c6
          clear c6
          obtain ⟨y136, hy136⟩ : ∃ y_ : List ByteArray, y_ = (x3_1 ++ [t133]) := ⟨_, rfl⟩
          replace H : (msg_Message_Lines.l0 k1 y136 t134) = some r := by first | (rw [hy136]; with_reducible exact H) | (have H2_ := (Option.bind_some _ _).symm.trans H; rw [hy136]; with_reducible exact H2_) | (have H2_ := (Option.bind_some _ _).symm.trans H; with_reducible exact H2_) | with_reducible exact H | (rw [hy136]; exact H) | exact H
          have Ny136 := Aside0.mk hy136
          clear hy136
          have H' := Aside0.mk H
          clear H
          go_wp2_with (first | ((with_reducible refine gate_callee (f := 65) rfl ?_); refine goesM (some 14) Tryz.func65 #[.string x4_1, .string (⟨#[13, 10]⟩ : ByteArray)] ?_; (with_reducible refine (strings_Cut.calls x4_1 (⟨#[13, 10]⟩ : ByteArray) t133 t134 t135 _ A5.out).mono ?_); rintro e w' ⟨rfl, ⟨nd, rfl⟩⟩; refine ⟨_, rfl, ?_⟩) | ((with_reducible refine gate_builtin (b := .append) (xs := #[.tmp 18, .tmp 20]) rfl ?_); at_builtin; refine Kd.R_append Kd.string (w0 := w) w.heap.size rfl (.tmp 18) (.tmp 20) 39 9 (.string ⟨#[]⟩) 16 rfl Tryz.underlying39 info9 rfl (by decide) (by omega) u3 x3_1 t133 [.string t133] (fun _ => True) (fun _ => False) rfl rfl ?aP (fun _ hk => hk.elim) ?aF ?aO ?aB ?aS ?aL ?_; (case aP => exact rfl); (case aB => exact bw); (case aF => exact (fun _ _ => trivial)); (case aO => exact (kr HO_3)); (case aS => exact (below_size bw)); (case aL => have := LMc6.out; omega); intro v137 w7 ho hb hg hat; rw [← Ny136.out] at ho; have n0_ := Aside0.mk (blk_grown (g := gb132) (o := .cells #[.slice A0_0 l0_0.length c0_0, .string a0_1] 25 (0, 0)) bk hg (Kd.R_ne HO_3.out BK132.out (by decide))); have n1_ := Aside0.mk (hb); have n2_ := Aside0.mk (ho); clear BK132; clear HB; clear HO_3; have BK132 := n0_; have HB := n1_; have HO138 := n2_; clear n0_ n1_ n2_; clear ho hb hg hat))
          go_roundg k1
          case measure => have := HK1.out; omega
          case rel => exact ⟨(y136), (t134), eqv, H', ⟨by have := HK1.out; omega⟩, ⟨kr HO138⟩, ⟨bk⟩, ⟨bw⟩⟩
        · rw [if_neg c6] at H
          exact absurd H (by simp)
end Go.Proofs.YtjohcncekfcgpaaGreatDoor.P
end
section
namespace Go.Proofs.YtjohcncekfcgpaaGreatDoor.P
open Go.RowKit Go.Proofs.YtjohcncekfcgpaaGreatDoorW.PrintWords Go.Proofs.YtjohcncekfcgpaaGreatDoorW.PrintLast Go.Proofs.YtjohcncekfcgpaaGreatDoorW.PrintMore
attribute [local go_sem] max2_int min2_int max_two min_two max_three min_three max_four min_four
set_option linter.unusedVariables false
set_option linter.unusedSimpArgs false
def msg_Parse.f (k : Nat) (a0 : ByteArray) : Option ((List (S47)) × ByteArray × Int) := if (a0.size : Int) > 65536 then (some (([] : List (S47)), (⟨#[]⟩ : ByteArray), 2)) else ((head_Parse.f k a0).bind fun bt125 => (if bt125.2.2 = 0 then (some (bt125.1, bt125.2.1, 0)) else (some (([] : List (S47)), (⟨#[]⟩ : ByteArray), bt125.2.2))))
theorem msg_Parse.mono : ∀ a0 k, LeO (msg_Parse.f k a0) (msg_Parse.f (k + 1) a0) := by
  intro a0 k
  unfold msg_Parse.f
  repeat' first
      | (with_reducible exact head_Parse.mono _ _)
      | (with_reducible exact LeO.refl _)
      | (with_reducible exact LeO.none _)
      | (with_reducible refine LeO.ite ?_ ?_)
      | (with_reducible refine LeO.bind ?_ (fun _ => ?_))
      | exact head_Parse.mono _ _
      | exact LeO.none _
      | refine LeO.ite ?_ ?_
      | refine LeO.bind ?_ (fun _ => ?_)
set_option maxHeartbeats 8000000 in
set_option maxRecDepth 100000 in
theorem msg_Parse.calls (k : Nat) (a0 : ByteArray) (r1 : List (S47)) (r2 : ByteArray) (r3 : Int) (w : World) (h : msg_Parse.f k a0 = some (r1, r2, r3)) (hGU : GU w := by exact gUT) :
    Calls Tryz.prog 16 #[.string a0] w fun e w' => ∃ v0_ : Value, e = .returned (.tuple #[.agg #[v0_, .string r2], .int .i64 r3]) ∧ Kd.R k47 47 w' w.heap.size (fun _ => True) v0_ r1 ∧ Below w.heap.size w w' := by
  have hu25 := Tryz.underlying25
  have HB := Aside0.mk (Below.refl w.heap.size w)
  have H : (if (a0.size : Int) > 65536 then (some (([] : List (S47)), (⟨#[]⟩ : ByteArray), 2)) else ((head_Parse.f k a0).bind fun bt125 => (if bt125.2.2 = 0 then (some (bt125.1, bt125.2.1, 0)) else (some (([] : List (S47)), (⟨#[]⟩ : ByteArray), bt125.2.2))))) = some (r1, r2, r3) := h
  clear h
  by_cases c2 : (a0.size : Int) > 65536
  · rw [if_pos c2] at H
    have c2b0 : decide (65536 < (a0.size : Int)) = true := decide_eq_true c2
    have c2b1 : decide (65536 < a0.size) = true := decide_eq_true (by omega)
    clear c2
    simp only [Option.some.injEq, Prod.mk.injEq] at H
    obtain ⟨rfl, rfl, rfl⟩ := H
    go_enter Tryz.func16, Tryz.ntmps16
    go_wp2_with (first | ((with_reducible refine gate_dst (N := 2) rfl ?_); refine boxE 2 #[.slice none 0 0, .string (⟨#[]⟩ : ByteArray)] 25 ?_; intro gb124 hg w3 hbox hb; have n0_ := Aside0.mk (below_step bw hb); have n1_ := Aside0.mk (hbox); have n2_ := Aside0.mk ((bz hg : w.heap.size ≤ gb124)); have n3_ := Aside0.mk ((bz hg : w.heap.size ≤ gb124)); clear HB; have HB := n0_; have BK124 := n1_; have GW124 := n2_; have GE124 := n3_; clear n0_ n1_ n2_ n3_; clear hb hbox hg; have hcz4_0 : w3.cell? ⟨gb124, 0, none⟩ = some (.slice none 0 0) := (blk_cell BK124.out 0).trans rfl; have hcz4_1 : w3.cell? ⟨gb124, 1, none⟩ = some (.string (⟨#[]⟩ : ByteArray)) := (blk_cell BK124.out 1).trans rfl; have hfz4_0 := blk_frozen BK124.out 0; have hfz4_1 := blk_frozen BK124.out 1))
    refine bodyPost_ret (results_ct rfl _ _ gb124 25 #[.slice none 0 0, .string (⟨#[]⟩ : ByteArray)] (0, 0) _ rfl (by (with_reducible repeat (first | refine blk_drewN ?_ _ | refine blk_drew ?_ | refine blk_alloc ?_ _)); refine blk_put (cs := #[.slice none 0 0, .string (⟨#[]⟩ : ByteArray)]) ?_ 1 _ rfl; (with_reducible repeat (first | refine blk_drewN ?_ _ | refine blk_drew ?_ | refine blk_alloc ?_ _)); refine blk_put (cs := #[.slice none 0 0, .string (⟨#[]⟩ : ByteArray)]) ?_ 0 _ rfl; (with_reducible repeat (first | refine blk_drewN ?_ _ | refine blk_drew ?_ | refine blk_alloc ?_ _)); exact BK124.out) Tryz.underlying25 rfl (by kernel_rfl)) rfl ?_
    exact ⟨_, eqe, by first | exact Kd.R_nil _ _ _ _ _ | exact Kd.N_nil _ _ _ _ _ | exact Kd.V_nil _ _ _ _ _ | exact Kd.Q_nil _ _ _ _ _ | exact Kd.S_nil _ _ _ _ _, bw⟩
  · rw [if_neg c2] at H
    have c2b0 : decide (65536 < (a0.size : Int)) = false := decide_eq_false c2
    have c2b1 : decide (65536 < a0.size) = false := decide_eq_false (by omega)
    clear c2
    replace H := Option.bind_eq_some_iff.mp H
    obtain ⟨⟨t125, t126, t127⟩, A50, H⟩ := H
    replace H : (if t127 = 0 then (some (t125, t126, 0)) else (some (([] : List (S47)), (⟨#[]⟩ : ByteArray), t127))) = some (r1, r2, r3) := H
    have A5 := Aside0.mk A50
    clear A50
    by_cases c6 : t127 = 0
    · rw [if_pos c6] at H
      have c6b0 : (t127 == 0) = true := beq_iff_eq.mpr c6
      have c6b1 : (t127 != 0) = false := bne_eq_false_iff_eq.mpr c6
      clear c6
      simp only [Option.some.injEq, Prod.mk.injEq] at H
      obtain ⟨rfl, rfl, rfl⟩ := H
      go_enter Tryz.func16, Tryz.ntmps16
      go_wp2_with (first | ((with_reducible refine gate_dst (N := 2) rfl ?_); refine boxE 2 #[.slice none 0 0, .string (⟨#[]⟩ : ByteArray)] 25 ?_; intro gb124 hg w7 hbox hb; have n0_ := Aside0.mk (below_step bw hb); have n1_ := Aside0.mk (hbox); have n2_ := Aside0.mk ((bz hg : w.heap.size ≤ gb124)); have n3_ := Aside0.mk ((bz hg : w.heap.size ≤ gb124)); clear HB; have HB := n0_; have BK124 := n1_; have GW124 := n2_; have GE124 := n3_; clear n0_ n1_ n2_ n3_; clear hb hbox hg) | ((with_reducible refine gate_callee (f := 60) rfl ?_); refine goesM (some 13) Tryz.func60 #[.string a0] ?_; (with_reducible refine (head_Parse.calls k a0 t125 t126 t127 _ A5.out).mono ?_); rintro e w8 ⟨v128, rfl, ho0, hb⟩; refine ⟨_, rfl, ?_⟩; have n0_ := Aside0.mk (Kd.R_lower ho0 (below_size bw)); have n1_ := Aside0.mk (bb BK124 hb); have n2_ := Aside0.mk (below_step bw hb); clear BK124; clear HB; have HO129 := n0_; have BK124 := n1_; have HB := n2_; clear n0_ n1_ n2_; (try clear hb); (try clear hb2); (try clear hk); (try clear hi); (try clear ho0); obtain ⟨Ao9, co9, eo9⟩ := Kd.R_slice HO129.out; subst eo9; have hcz10_0 : w8.cell? ⟨gb124, 0, none⟩ = some (.slice none 0 0) := (blk_cell BK124.out 0).trans rfl; have hcz10_1 : w8.cell? ⟨gb124, 1, none⟩ = some (.string (⟨#[]⟩ : ByteArray)) := (blk_cell BK124.out 1).trans rfl; have hfz10_0 := blk_frozen BK124.out 0; have hfz10_1 := blk_frozen BK124.out 1))
      refine bodyPost_ret (results_ct rfl _ _ gb124 25 #[.slice Ao9 t125.length co9, .string t126] (0, 0) _ rfl (by (with_reducible repeat (first | refine blk_drewN ?_ _ | refine blk_drew ?_ | refine blk_alloc ?_ _)); refine blk_put (cs := #[.slice Ao9 t125.length co9, .string (⟨#[]⟩ : ByteArray)]) ?_ 1 _ rfl; (with_reducible repeat (first | refine blk_drewN ?_ _ | refine blk_drew ?_ | refine blk_alloc ?_ _)); refine blk_put (cs := #[.slice none 0 0, .string (⟨#[]⟩ : ByteArray)]) ?_ 0 _ rfl; (with_reducible repeat (first | refine blk_drewN ?_ _ | refine blk_drew ?_ | refine blk_alloc ?_ _)); exact BK124.out) Tryz.underlying25 rfl (by kernel_rfl)) rfl ?_
      exact ⟨_, eqe, by (with_reducible repeat (first | apply Kd.R_alloc | apply Kd.R_drewN | apply Kd.R_drew)); exact Kd.R_mono (Kd.R_far (p := ⟨gb124, 1, none⟩) (Kd.R_far (p := ⟨gb124, 0, none⟩) (Kd.R_types HO129.out BK124.out (by decide)) (fun _ hk => hk.2) (.slice Ao9 t125.length co9)) (fun _ hk => hk.2) (.string t126)) (fun _ hk => trivial), bw⟩
    · rw [if_neg c6] at H
      have c6b0 : (t127 == 0) = false := beq_eq_false_iff_ne.mpr c6
      have c6b1 : (t127 != 0) = true := bne_iff_ne.mpr c6
      simp only [Option.some.injEq, Prod.mk.injEq] at H
      obtain ⟨rfl, rfl, rfl⟩ := H
      go_enter Tryz.func16, Tryz.ntmps16
      go_wp2_with (first | ((with_reducible refine gate_dst (N := 2) rfl ?_); refine boxE 2 #[.slice none 0 0, .string (⟨#[]⟩ : ByteArray)] 25 ?_; intro gb124 hg w11 hbox hb; have n0_ := Aside0.mk (below_step bw hb); have n1_ := Aside0.mk (hbox); have n2_ := Aside0.mk ((bz hg : w.heap.size ≤ gb124)); have n3_ := Aside0.mk ((bz hg : w.heap.size ≤ gb124)); clear HB; have HB := n0_; have BK124 := n1_; have GW124 := n2_; have GE124 := n3_; clear n0_ n1_ n2_ n3_; clear hb hbox hg) | ((with_reducible refine gate_callee (f := 60) rfl ?_); refine goesM (some 13) Tryz.func60 #[.string a0] ?_; (with_reducible refine (head_Parse.calls k a0 t125 t126 t127 _ A5.out).mono ?_); rintro e w12 ⟨v128, rfl, ho0, hb⟩; refine ⟨_, rfl, ?_⟩; have n0_ := Aside0.mk (Kd.R_lower ho0 (below_size bw)); have n1_ := Aside0.mk (bb BK124 hb); have n2_ := Aside0.mk (below_step bw hb); clear BK124; clear HB; have HO129 := n0_; have BK124 := n1_; have HB := n2_; clear n0_ n1_ n2_; (try clear hb); (try clear hb2); (try clear hk); (try clear hi); (try clear ho0); have hcz13_0 : w12.cell? ⟨gb124, 0, none⟩ = some (.slice none 0 0) := (blk_cell BK124.out 0).trans rfl; have hcz13_1 : w12.cell? ⟨gb124, 1, none⟩ = some (.string (⟨#[]⟩ : ByteArray)) := (blk_cell BK124.out 1).trans rfl; have hfz13_0 := blk_frozen BK124.out 0; have hfz13_1 := blk_frozen BK124.out 1))
      refine bodyPost_ret (results_ct rfl _ _ gb124 25 #[.slice none 0 0, .string (⟨#[]⟩ : ByteArray)] (0, 0) _ rfl (by (with_reducible repeat (first | refine blk_drewN ?_ _ | refine blk_drew ?_ | refine blk_alloc ?_ _)); refine blk_put (cs := #[.slice none 0 0, .string (⟨#[]⟩ : ByteArray)]) ?_ 1 _ rfl; (with_reducible repeat (first | refine blk_drewN ?_ _ | refine blk_drew ?_ | refine blk_alloc ?_ _)); refine blk_put (cs := #[.slice none 0 0, .string (⟨#[]⟩ : ByteArray)]) ?_ 0 _ rfl; (with_reducible repeat (first | refine blk_drewN ?_ _ | refine blk_drew ?_ | refine blk_alloc ?_ _)); exact BK124.out) Tryz.underlying25 rfl (by kernel_rfl)) rfl ?_
      exact ⟨_, eqe, by first | exact Kd.R_nil _ _ _ _ _ | exact Kd.N_nil _ _ _ _ _ | exact Kd.V_nil _ _ _ _ _ | exact Kd.Q_nil _ _ _ _ _ | exact Kd.S_nil _ _ _ _ _, bw⟩
end Go.Proofs.YtjohcncekfcgpaaGreatDoor.P
end
section
namespace Go.Proofs.YtjohcncekfcgpaaGreatDoor.P
open Go.RowKit Go.Proofs.YtjohcncekfcgpaaGreatDoorW.PrintWords Go.Proofs.YtjohcncekfcgpaaGreatDoorW.PrintLast Go.Proofs.YtjohcncekfcgpaaGreatDoorW.PrintMore
attribute [local go_sem] max2_int min2_int max_two min_two max_three min_three max_four min_four
set_option linter.unusedVariables false
set_option linter.unusedSimpArgs false
theorem eqA230 (d : Nat) (w : World) (x0 y0 : Int) (x1 y1 : ByteArray) :
    (Op.equalIn (d + 2) 230 (.agg #[.int .i64 x0, .string x1]) (.agg #[.int .i64 y0, .string y1])).run Tryz.prog w = .ok (x0 == y0 && (x1.toList == y1.toList)) w := by
  refine eqA_of Tryz.underlying230 (by kernel_rfl) ?_
  refine eqf_cons (by rfl) (by go_simp; rfl) (by go_simp; rfl) (by go_simp) ?_
  exact eqf_last (by rfl) (by go_simp; rfl) (by go_simp; rfl) (by go_simp)
end Go.Proofs.YtjohcncekfcgpaaGreatDoor.P
end
section
namespace Go.Proofs.YtjohcncekfcgpaaGreatDoor.P
open Go.RowKit Go.Proofs.YtjohcncekfcgpaaGreatDoorW.PrintWords Go.Proofs.YtjohcncekfcgpaaGreatDoorW.PrintLast Go.Proofs.YtjohcncekfcgpaaGreatDoorW.PrintMore
attribute [local go_sem] max2_int min2_int max_two min_two max_three min_three max_four min_four
set_option linter.unusedVariables false
set_option linter.unusedSimpArgs false
attribute [local go_sem high] eqA230
def addr_is.f (l0 : List (S230)) (a1 : ByteArray) : Option (Bool) := if (l0.length : Int) > 0 then (if 0 < (l0.length : Int) then (some (((rd_T230 l0 0).f0) == 3 && ((((rd_T230 l0 0).f1).toList) == a1.toList))) else (none)) else (some false)
set_option maxHeartbeats 8000000 in
set_option maxRecDepth 100000 in
theorem addr_is.calls (A0 : Option Addr) (c0 : Nat) (l0 : List (S230)) (a1 : ByteArray) (r : Bool) (w : World) (hr0 : Kd.C k230 w A0 l0.length l0) (hc0 : l0.length ≤ c0) (h : addr_is.f l0 a1 = some r) :
    Calls Tryz.prog 275 #[.slice A0 l0.length c0, .string a1] w fun e w' => e = .returned (.bool r) ∧ Drawn0 w w' := by
  have hu230 := Tryz.underlying230
  have HR0 := Aside0.mk hr0
  have HC0 := Aside0.mk hc0
  clear hr0 hc0
  have H : (if (l0.length : Int) > 0 then (if 0 < (l0.length : Int) then (some (((rd_T230 l0 0).f0) == 3 && ((((rd_T230 l0 0).f1).toList) == a1.toList))) else (none)) else (some false)) = some r := h
  clear h
  by_cases c3 : (l0.length : Int) > 0
  · rw [if_pos c3] at H
    have c3b0 : decide (0 < (l0.length : Int)) = true := decide_eq_true c3
    have c3b1 : decide (0 < l0.length) = true := decide_eq_true (by omega)
    clear c3
    by_cases c4 : 0 < (l0.length : Int)
    · rw [if_pos c4] at H
      have c4b0 : decide (0 < (l0.length : Int)) = true := decide_eq_true c4
      have c4b1 : decide (0 < l0.length) = true := decide_eq_true (by omega)
      clear c4
      obtain rfl := Option.some.inj H
      have p1103 : 0 ≤ (0 : Int) := (by omega)
      have q1103 : 0 < (l0.length : Int) := of_decide_eq_true asm
      obtain ⟨ad1103, e1103, hx1103_0, hx1103_1⟩ := at_T230 HR0.out 0 p1103 q1103
      cases e1103
      have qi1103 : (0 < l0.length) = True := eq_true (by omega)
      (try rw [show ((0 : Int)).toNat = 0 from rfl] at hx1103_0)
      (try rw [show 0 * 2 = 0 from rfl] at hx1103_0)
      (try rw [Addr.add_zero'] at hx1103_0)
      (try rw [show ((0 : Int)).toNat = 0 from rfl] at hx1103_1)
      (try rw [show 0 * 2 = 0 from rfl] at hx1103_1)
      (try rw [Addr.add_zero'] at hx1103_1)
      replace p1103 := eq_true p1103
      replace q1103 := eq_true q1103
      go_enter Tryz.func275, Tryz.ntmps275
      go_wp2
      go_ret
      exact ⟨eqv, dr⟩
    · rw [if_neg c4] at H
      exact absurd H (by simp)
  · rw [if_neg c3] at H
    have c3b0 : decide (0 < (l0.length : Int)) = false := decide_eq_false c3
    have c3b1 : decide (0 < l0.length) = false := decide_eq_false (by omega)
    clear c3
    obtain rfl := Option.some.inj H
    go_enter Tryz.func275, Tryz.ntmps275
    go_wp2
    go_ret
    exact ⟨eqv, dr⟩
end Go.Proofs.YtjohcncekfcgpaaGreatDoor.P
end
section
namespace Go.Proofs.YtjohcncekfcgpaaGreatDoor.P
open Go.RowKit Go.Proofs.YtjohcncekfcgpaaGreatDoorW.PrintWords Go.Proofs.YtjohcncekfcgpaaGreatDoorW.PrintLast Go.Proofs.YtjohcncekfcgpaaGreatDoorW.PrintMore
attribute [local go_sem] max2_int min2_int max_two min_two max_three min_three max_four min_four
set_option linter.unusedVariables false
set_option linter.unusedSimpArgs false
mutual
def addr_joined.l0 : Nat → List (S230) → Bool → ByteArray → Option (ByteArray × (List (S230)) × Bool)
  | 0, _, _, _ => none
  | k + 1, x0, x1, x7 => if (x0.length : Int) = 0 then (addr_joined.j1 k x0 x1 x7 true) else (if 0 < (x0.length : Int) then (if ((rd_T230 x0 0).f0) = 3 then (addr_joined.j1 k x0 x1 x7 true) else (if x1 = true then (addr_joined.j1 k x0 x1 x7 (((rd_T230 x0 0).f0) != 1)) else (addr_joined.j1 k x0 x1 x7 false))) else (none))
def addr_joined.j1 : Nat → List (S230) → Bool → ByteArray → Bool → Option (ByteArray × (List (S230)) × Bool)
  | 0, _, _, _, _ => none
  | k + 1, x0, x1, x7, x27 => if x27 = true then (some ((⟨#[]⟩ : ByteArray), ([] : List (S230)), false)) else (if 0 < (x0.length : Int) then (if x7.size + ((rd_T230 x0 0).f1).size ≤ 9223372036854775807 then (if 1 ≤ (x0.length : Int) then ((some (x0.drop 1 : List (S230))).bind fun y1107 => ((addr_is.f y1107 (⟨#[46]⟩ : ByteArray)).bind fun t1112 => (if t1112 = true then (if (x7 ++ ((rd_T230 x0 0).f1)).size + 1 ≤ 9223372036854775807 then (if 1 ≤ (y1107.length : Int) then (addr_joined.l0 k (y1107.drop 1) x1 ((x7 ++ ((rd_T230 x0 0).f1)) ++ (⟨#[46]⟩ : ByteArray))) else (none)) else (none)) else (some (x7 ++ ((rd_T230 x0 0).f1), y1107, true))))) else (none)) else (none)) else (none))
end
def addr_joined.f (k : Nat) (l0 : List (S230)) (a1 : Bool) : Option (ByteArray × (List (S230)) × Bool) := addr_joined.l0 k l0 a1 (⟨#[]⟩ : ByteArray)
theorem addr_joined.mono_l : ∀ k, (∀ y0 y1 y2, LeO (addr_joined.l0 k y0 y1 y2) (addr_joined.l0 (k + 1) y0 y1 y2)) ∧ (∀ y0 y1 y2 y3, LeO (addr_joined.j1 k y0 y1 y2 y3) (addr_joined.j1 (k + 1) y0 y1 y2 y3))
  | 0 => ⟨fun _ _ _ r h => by simp [addr_joined.l0] at h, fun _ _ _ _ r h => by simp [addr_joined.j1] at h⟩
  | k + 1 => by
    obtain ⟨ih0, ih1⟩ := addr_joined.mono_l k
    refine ⟨?_, ?_⟩
    · intro y0 y1 y2
      unfold addr_joined.l0
      repeat' first
      | (with_reducible exact ih0 _ _ _)
      | (with_reducible exact ih1 _ _ _ _)
      | (with_reducible exact LeO.refl _)
      | (with_reducible exact LeO.none _)
      | (with_reducible refine LeO.ite ?_ ?_)
      | (with_reducible refine LeO.bind ?_ (fun _ => ?_))
      | exact ih0 _ _ _
      | exact ih1 _ _ _ _
      | exact LeO.none _
      | refine LeO.ite ?_ ?_
      | refine LeO.bind ?_ (fun _ => ?_)
    · intro y0 y1 y2 y3
      unfold addr_joined.j1
      repeat' first
      | (with_reducible exact ih0 _ _ _)
      | (with_reducible exact ih1 _ _ _ _)
      | (with_reducible exact LeO.refl _)
      | (with_reducible exact LeO.none _)
      | (with_reducible refine LeO.ite ?_ ?_)
      | (with_reducible refine LeO.bind ?_ (fun _ => ?_))
      | exact ih0 _ _ _
      | exact ih1 _ _ _ _
      | exact LeO.none _
      | refine LeO.ite ?_ ?_
      | refine LeO.bind ?_ (fun _ => ?_)
theorem addr_joined.mono : ∀ a0 a1 k, LeO (addr_joined.f k a0 a1) (addr_joined.f (k + 1) a0 a1) := by
  intro a0 a1 k
  obtain ⟨ih0, ih1⟩ := addr_joined.mono_l k
  unfold addr_joined.f
  repeat' first
      | (with_reducible exact ih0 _ _ _)
      | (with_reducible exact ih1 _ _ _ _)
      | (with_reducible exact LeO.refl _)
      | (with_reducible exact LeO.none _)
      | (with_reducible refine LeO.ite ?_ ?_)
      | (with_reducible refine LeO.bind ?_ (fun _ => ?_))
      | exact ih0 _ _ _
      | exact ih1 _ _ _ _
      | exact LeO.none _
      | refine LeO.ite ?_ ?_
      | refine LeO.bind ?_ (fun _ => ?_)
set_option maxHeartbeats 8000000 in
set_option maxRecDepth 100000 in
theorem addr_joined.calls (k : Nat) (P0_ : Nat → Prop) (A0 : Option Addr) (c0 : Nat) (l0 : List (S230)) (a1 : Bool) (r1 : ByteArray) (r2 : List (S230)) (r3 : Bool) (w : World) (hs0 : Kd.V k230 230 w w.heap.size (fun k_ => P0_ k_) (.slice A0 l0.length c0) l0) (h : addr_joined.f k l0 a1 = some (r1, r2, r3)) :
    Calls Tryz.prog 274 #[.slice A0 l0.length c0, .bool a1] w fun e w' => ∃ v1_ : Value, e = .returned (.tuple #[.string r1, v1_, .bool r3]) ∧ Kd.V k230 230 w' w.heap.size (fun k_ => (P0_ k_ ∨ w.heap.size ≤ k_)) v1_ r2 ∧ Below w.heap.size w w' := by
  have HO0 := Aside0.mk (show Kd.V k230 230 w w.heap.size (fun k_ => (P0_ k_ ∨ w.heap.size ≤ k_)) (.slice A0 l0.length c0) l0 from Kd.V_mono hs0 (fun k_ hk => .inl hk))
  have HB := Aside0.mk (Below.refl w.heap.size w)
  have H : (addr_joined.l0 k l0 a1 (⟨#[]⟩ : ByteArray)) = some (r1, r2, r3) := h
  clear h
  have H' := Aside0.mk H
  clear H
  go_enter Tryz.func274, Tryz.ntmps274
  go_wp2
  go_loopg [0, 7] k (fun kq v0 v7 w' => ∃ (x0_1 : List (S230)) (x7_1 : ByteArray), v7 = .string x7_1 ∧ Aside0 (addr_joined.l0 kq x0_1 a1 x7_1 = some (r1, r2, r3)) ∧ Aside0 (kq ≤ k) ∧ Aside0 (Kd.V k230 230 w' w.heap.size (fun k_ => (P0_ k_ ∨ w.heap.size ≤ k_)) v0 x0_1) ∧ Aside0 (Below w.heap.size w w'))
  case atStart => exact ⟨(l0), ((⟨#[]⟩ : ByteArray)), eqv, H', ⟨Nat.le_refl _⟩, ⟨by (with_reducible repeat (first | apply Kd.V_alloc | apply Kd.V_drewN | apply Kd.V_drew)); exact HO0.out⟩, ⟨bw⟩⟩
  case round =>
    clear H'
    try clear c2
    try clear p2
    obtain ⟨x0_1, x7_1, rfl, HA, HK1, HO_0, HB⟩ := hrel
    cases gk with
    | zero => exact absurd HA.out (by simp [addr_joined.l0])
    | succ k1 =>
      have H := HA.out
      clear HA
      simp only [addr_joined.l0] at H
      have HC3 := Aside0.mk H
      clear H
      go_upto_region 2 with (fail)
      go_cut [27] (fun v27 wc => ∃ (kq : Nat) (x27_2 : Bool), v27 = .bool x27_2 ∧ Aside0 (addr_joined.j1 kq x0_1 a1 x7_1 x27_2 = some (r1, r2, r3)) ∧ Aside0 (kq ≤ k1) ∧ Aside0 (Kd.V k230 230 wc w.heap.size (fun k_ => (P0_ k_ ∨ w.heap.size ≤ k_)) u0 x0_1) ∧ Aside0 (Below w.heap.size w wc))
      case first =>
        have H := HC3.out
        clear HC3
        by_cases c4 : (x0_1.length : Int) = 0
        · rw [if_pos c4] at H
          have c4b0 : ((x0_1.length : Int) == 0) = true := beq_iff_eq.mpr c4
          have c4b1 : ((x0_1.length : Int) != 0) = false := bne_eq_false_iff_eq.mpr c4
          clear c4
          (first | rw [c4b0] | (simp only [i64_w, i32_w]; rw [c4b0]) | rw [c4bE] | skip)
          have H' := Aside0.mk H
          clear H
          obtain ⟨Ao5, co5, eo5⟩ := Kd.V_slice HO_0.out
          subst eo5
          go_wp2
          go_meet
          case rel => exact ⟨_, (true), eqv, H', ⟨by have := HK1.out; first | omega | exact Nat.le_refl _⟩, ⟨by (with_reducible repeat (first | apply Kd.V_alloc | apply Kd.V_drewN | apply Kd.V_drew)); exact HO_0.out⟩, ⟨bw⟩⟩
        · rw [if_neg c4] at H
          have c4b0 : ((x0_1.length : Int) == 0) = false := beq_eq_false_iff_ne.mpr c4
          have c4b1 : ((x0_1.length : Int) != 0) = true := bne_iff_ne.mpr c4
          have c4b2 : ¬ (x0_1 = []) := fun h_ => c4 (by rw [h_]; rfl)
          (first | rw [c4b0] | (simp only [i64_w, i32_w]; rw [c4b0]) | rw [c4bE] | skip)
          by_cases c6 : 0 < (x0_1.length : Int)
          · rw [if_pos c6] at H
            have c6b0 : decide (0 < (x0_1.length : Int)) = true := decide_eq_true c6
            have c6b1 : decide (0 < x0_1.length) = true := decide_eq_true (by omega)
            clear c6
            by_cases c7 : ((rd_T230 x0_1 0).f0) = 3
            · rw [if_pos c7] at H
              have c7b0 : (((rd_T230 x0_1 0).f0) == 3) = true := beq_iff_eq.mpr c7
              have c7b1 : (((rd_T230 x0_1 0).f0) != 3) = false := bne_eq_false_iff_eq.mpr c7
              clear c7
              have H' := Aside0.mk H
              clear H
              obtain ⟨Ao8, co8, eo8⟩ := Kd.V_slice HO_0.out
              subst eo8
              have p1104 : 0 ≤ (0 : Int) := (by omega)
              have q1104 : 0 < (x0_1.length : Int) := of_decide_eq_true asm
              obtain ⟨ad1104, e1104, hx1104_0, hx1104_1⟩ := at_T230 (Kd.V_reads' HO_0.out).2.2 0 p1104 q1104
              cases e1104
              have qi1104 : (0 < x0_1.length) = True := eq_true (by omega)
              (try rw [show ((0 : Int)).toNat = 0 from rfl] at hx1104_0)
              (try rw [show 0 * 2 = 0 from rfl] at hx1104_0)
              (try rw [Addr.add_zero'] at hx1104_0)
              (try rw [show ((0 : Int)).toNat = 0 from rfl] at hx1104_1)
              (try rw [show 0 * 2 = 0 from rfl] at hx1104_1)
              (try rw [Addr.add_zero'] at hx1104_1)
              replace p1104 := eq_true p1104
              replace q1104 := eq_true q1104
              go_wp2
              go_meet
              case rel => exact ⟨_, (true), eqv, H', ⟨by have := HK1.out; first | omega | exact Nat.le_refl _⟩, ⟨by (with_reducible repeat (first | apply Kd.V_alloc | apply Kd.V_drewN | apply Kd.V_drew)); exact HO_0.out⟩, ⟨bw⟩⟩
            · rw [if_neg c7] at H
              have c7b0 : (((rd_T230 x0_1 0).f0) == 3) = false := beq_eq_false_iff_ne.mpr c7
              have c7b1 : (((rd_T230 x0_1 0).f0) != 3) = true := bne_iff_ne.mpr c7
              by_cases c9 : a1 = true
              · subst c9
                have H1 : (addr_joined.j1 k1 x0_1 true x7_1 (((rd_T230 x0_1 0).f0) != 1)) = some (r1, r2, r3) := by rw [if_pos rfl] at H; exact H
                clear H
                have H := H1
                clear H1
                have H' := Aside0.mk H
                clear H
                obtain ⟨Ao10, co10, eo10⟩ := Kd.V_slice HO_0.out
                subst eo10
                have p1104 : 0 ≤ (0 : Int) := (by omega)
                have q1104 : 0 < (x0_1.length : Int) := of_decide_eq_true asm
                obtain ⟨ad1104, e1104, hx1104_0, hx1104_1⟩ := at_T230 (Kd.V_reads' HO_0.out).2.2 0 p1104 q1104
                cases e1104
                have qi1104 : (0 < x0_1.length) = True := eq_true (by omega)
                (try rw [show ((0 : Int)).toNat = 0 from rfl] at hx1104_0)
                (try rw [show 0 * 2 = 0 from rfl] at hx1104_0)
                (try rw [Addr.add_zero'] at hx1104_0)
                (try rw [show ((0 : Int)).toNat = 0 from rfl] at hx1104_1)
                (try rw [show 0 * 2 = 0 from rfl] at hx1104_1)
                (try rw [Addr.add_zero'] at hx1104_1)
                replace p1104 := eq_true p1104
                replace q1104 := eq_true q1104
                have p1105 : 0 ≤ (0 : Int) := (by omega)
                have q1105 : 0 < (x0_1.length : Int) := of_decide_eq_true asm
                obtain ⟨ad1105, e1105, hx1105_0, hx1105_1⟩ := at_T230 (Kd.V_reads' HO_0.out).2.2 0 p1105 q1105
                obtain rfl : ad1104 = ad1105 := (by injection e1105)
                have qi1105 : (0 < x0_1.length) = True := eq_true (by omega)
                (try rw [show ((0 : Int)).toNat = 0 from rfl] at hx1105_0)
                (try rw [show 0 * 2 = 0 from rfl] at hx1105_0)
                (try rw [Addr.add_zero'] at hx1105_0)
                (try rw [show ((0 : Int)).toNat = 0 from rfl] at hx1105_1)
                (try rw [show 0 * 2 = 0 from rfl] at hx1105_1)
                (try rw [Addr.add_zero'] at hx1105_1)
                replace p1105 := eq_true p1105
                replace q1105 := eq_true q1105
                go_wp2
                go_meet
                case rel => exact ⟨_, ((((rd_T230 x0_1 0).f0) != 1)), eqv, H', ⟨by have := HK1.out; first | omega | exact Nat.le_refl _⟩, ⟨by (with_reducible repeat (first | apply Kd.V_alloc | apply Kd.V_drewN | apply Kd.V_drew)); exact HO_0.out⟩, ⟨bw⟩⟩
              · replace c9 := Bool.eq_false_iff.mpr c9
                subst c9
                have H1 : (addr_joined.j1 k1 x0_1 false x7_1 false) = some (r1, r2, r3) := by rw [if_neg (show ¬ (false = true) by decide)] at H; exact H
                clear H
                have H := H1
                clear H1
                have H' := Aside0.mk H
                clear H
                obtain ⟨Ao11, co11, eo11⟩ := Kd.V_slice HO_0.out
                subst eo11
                have p1104 : 0 ≤ (0 : Int) := (by omega)
                have q1104 : 0 < (x0_1.length : Int) := of_decide_eq_true asm
                obtain ⟨ad1104, e1104, hx1104_0, hx1104_1⟩ := at_T230 (Kd.V_reads' HO_0.out).2.2 0 p1104 q1104
                cases e1104
                have qi1104 : (0 < x0_1.length) = True := eq_true (by omega)
                (try rw [show ((0 : Int)).toNat = 0 from rfl] at hx1104_0)
                (try rw [show 0 * 2 = 0 from rfl] at hx1104_0)
                (try rw [Addr.add_zero'] at hx1104_0)
                (try rw [show ((0 : Int)).toNat = 0 from rfl] at hx1104_1)
                (try rw [show 0 * 2 = 0 from rfl] at hx1104_1)
                (try rw [Addr.add_zero'] at hx1104_1)
                replace p1104 := eq_true p1104
                replace q1104 := eq_true q1104
                go_wp2
                go_meet
                case rel => exact ⟨_, (false), eqv, H', ⟨by have := HK1.out; first | omega | exact Nat.le_refl _⟩, ⟨by (with_reducible repeat (first | apply Kd.V_alloc | apply Kd.V_drewN | apply Kd.V_drew)); exact HO_0.out⟩, ⟨bw⟩⟩
          · rw [if_neg c6] at H
            exact absurd H (by simp)
      case rest =>
        clear HC3
        try clear p1
        try clear q1
        try clear hx1
        try clear qi1
        try clear c2
        try clear p2
        try clear c4
        try clear c4b0
        try clear c4b1
        try clear c4b2
        try clear c6
        try clear c6b0
        try clear c6b1
        try clear c7
        try clear c7b0
        try clear c7b1
        try clear c9
        try clear p11
        try clear q11
        try clear hx11
        try clear qi11
        try clear hx1104_0
        try clear hx1104_1
        try clear hx1105_0
        try clear hx1105_1
        try clear p1104
        try clear p1105
        try clear p2
        try clear q1104
        try clear q1105
        obtain ⟨kq, x27_2, rfl, HA, HJ2, HO_0, HB⟩ := hcut
        cases kq with
        | zero => exact absurd HA.out (by simp [addr_joined.j1])
        | succ kj2 =>
          have H := HA.out
          clear HA
          simp only [addr_joined.j1] at H
          by_cases c12 : x27_2 = true
          · subst c12
            have H1 : (some ((⟨#[]⟩ : ByteArray), ([] : List (S230)), false)) = some (r1, r2, r3) := by rw [if_pos rfl] at H; exact H
            clear H
            have H := H1
            clear H1
            simp only [Option.some.injEq, Prod.mk.injEq] at H
            obtain ⟨rfl, rfl, rfl⟩ := H
            go_wp2
            go_ret3
            exact ⟨.slice none 0 0, eqe, Kd.V_mono (Kd.R_V (Kd.R_nil _ _ _ 0 (fun k_ => w.heap.size ≤ k_))) (fun k_ hk => by first | exact ⟨(.inr (hk.1)), hk.2⟩ | exact (.inr (hk))), bw⟩
          · replace c12 := Bool.eq_false_iff.mpr c12
            subst c12
            have H1 : (if 0 < (x0_1.length : Int) then (if x7_1.size + ((rd_T230 x0_1 0).f1).size ≤ 9223372036854775807 then (if 1 ≤ (x0_1.length : Int) then ((some (x0_1.drop 1 : List (S230))).bind fun y1107 => ((addr_is.f y1107 (⟨#[46]⟩ : ByteArray)).bind fun t1112 => (if t1112 = true then (if (x7_1 ++ ((rd_T230 x0_1 0).f1)).size + 1 ≤ 9223372036854775807 then (if 1 ≤ (y1107.length : Int) then (addr_joined.l0 kj2 (y1107.drop 1) a1 ((x7_1 ++ ((rd_T230 x0_1 0).f1)) ++ (⟨#[46]⟩ : ByteArray))) else (none)) else (none)) else (some (x7_1 ++ ((rd_T230 x0_1 0).f1), y1107, true))))) else (none)) else (none)) else (none)) = some (r1, r2, r3) := by rw [if_neg (show ¬ (false = true) by decide)] at H; exact H
            clear H
            have H := H1
            clear H1
            by_cases c13 : 0 < (x0_1.length : Int)
            · rw [if_pos c13] at H
              have c13b0 : decide (0 < (x0_1.length : Int)) = true := decide_eq_true c13
              have c13b1 : decide (0 < x0_1.length) = true := decide_eq_true (by omega)
              clear c13
              by_cases c14 : x7_1.size + ((rd_T230 x0_1 0).f1).size ≤ 9223372036854775807
              · rw [if_pos c14] at H
                have c14b0 := eq_true c14
                have c14b1 : decide (x7_1.size + ((rd_T230 x0_1 0).f1).size ≤ 9223372036854775807) = true := decide_eq_true c14
                try have c14b2 : (9223372036854775807 < x7_1.size + ((rd_T230 x0_1 0).f1).size) = False := eq_false (Nat.not_lt.2 c14)
                by_cases c15 : 1 ≤ (x0_1.length : Int)
                · rw [if_pos c15] at H
                  have c15b0 := eq_true c15
                  have c15b1 : decide (1 ≤ (x0_1.length : Int)) = true := decide_eq_true c15
                  clear c15
                  obtain ⟨y1107, hy1107⟩ : ∃ y_ : List (S230), y_ = (x0_1.drop 1) := ⟨_, rfl⟩
                  replace H : ((addr_is.f y1107 (⟨#[46]⟩ : ByteArray)).bind fun t1112 => (if t1112 = true then (if (x7_1 ++ ((rd_T230 x0_1 0).f1)).size + 1 ≤ 9223372036854775807 then (if 1 ≤ (y1107.length : Int) then (addr_joined.l0 kj2 (y1107.drop 1) a1 ((x7_1 ++ ((rd_T230 x0_1 0).f1)) ++ (⟨#[46]⟩ : ByteArray))) else (none)) else (none)) else (some (x7_1 ++ ((rd_T230 x0_1 0).f1), y1107, true)))) = some (r1, r2, r3) := by first | (rw [hy1107]; with_reducible exact H) | (have H2_ := (Option.bind_some _ _).symm.trans H; rw [hy1107]; with_reducible exact H2_) | (have H2_ := (Option.bind_some _ _).symm.trans H; with_reducible exact H2_) | with_reducible exact H | (rw [hy1107]; exact H) | exact H
                  have Ny1107 := Aside0.mk hy1107
                  clear hy1107
                  replace H := Option.bind_eq_some_iff.mp H
                  obtain ⟨t1112, A160, H⟩ := H
                  replace H : (if t1112 = true then (if (x7_1 ++ ((rd_T230 x0_1 0).f1)).size + 1 ≤ 9223372036854775807 then (if 1 ≤ (y1107.length : Int) then (addr_joined.l0 kj2 (y1107.drop 1) a1 ((x7_1 ++ ((rd_T230 x0_1 0).f1)) ++ (⟨#[46]⟩ : ByteArray))) else (none)) else (none)) else (some (x7_1 ++ ((rd_T230 x0_1 0).f1), y1107, true))) = some (r1, r2, r3) := H
                  have A16 := Aside0.mk A160
                  clear A160
                  by_cases c17 : t1112 = true
                  · subst c17
                    have H1 : (if (x7_1 ++ ((rd_T230 x0_1 0).f1)).size + 1 ≤ 9223372036854775807 then (if 1 ≤ (y1107.length : Int) then (addr_joined.l0 kj2 (y1107.drop 1) a1 ((x7_1 ++ ((rd_T230 x0_1 0).f1)) ++ (⟨#[46]⟩ : ByteArray))) else (none)) else (none)) = some (r1, r2, r3) := by rw [if_pos rfl] at H; exact H
                    clear H
                    have H := H1
                    clear H1
                    by_cases c18 : (x7_1 ++ ((rd_T230 x0_1 0).f1)).size + 1 ≤ 9223372036854775807
                    · rw [if_pos c18] at H
                      have c18b0 := eq_true c18
                      have c18b1 : decide ((x7_1 ++ ((rd_T230 x0_1 0).f1)).size + 1 ≤ 9223372036854775807) = true := decide_eq_true c18
                      try have c18b2 : (9223372036854775807 < (x7_1 ++ ((rd_T230 x0_1 0).f1)).size + 1) = False := eq_false (Nat.not_lt.2 c18)
                      (try (have c18v0 : (9223372036854775807 < x7_1.size + ((rd_T230 x0_1 0).f1).size + 1) = False := eq_false (Nat.not_lt.2 (by have h_ := c18; (try simp only [ByteArray.size_append, ByteArray.size_extract] at h_); exact h_))))
                      by_cases c19 : 1 ≤ (y1107.length : Int)
                      · rw [if_pos c19] at H
                        have c19b0 := eq_true c19
                        have c19b1 : decide (1 ≤ (y1107.length : Int)) = true := decide_eq_true c19
                        clear c19
                        obtain ⟨y1113, hy1113⟩ : ∃ y_ : List (S230), y_ = (y1107.drop 1) := ⟨_, rfl⟩
                        replace H : (addr_joined.l0 kj2 y1113 a1 ((x7_1 ++ ((rd_T230 x0_1 0).f1)) ++ (⟨#[46]⟩ : ByteArray))) = some (r1, r2, r3) := by first | (rw [hy1113]; with_reducible exact H) | (have H2_ := (Option.bind_some _ _).symm.trans H; rw [hy1113]; with_reducible exact H2_) | (have H2_ := (Option.bind_some _ _).symm.trans H; with_reducible exact H2_) | with_reducible exact H | (rw [hy1113]; exact H) | exact H
                        have Ny1113 := Aside0.mk hy1113
                        clear hy1113
                        have H' := Aside0.mk H
                        clear H
                        obtain ⟨Ao20, co20, eo20⟩ := Kd.V_slice HO_0.out
                        subst eo20
                        have p1106 : 0 ≤ (0 : Int) := (by omega)
                        have q1106 : 0 < (x0_1.length : Int) := of_decide_eq_true asm
                        obtain ⟨ad1106, e1106, hx1106_0, hx1106_1⟩ := at_T230 (Kd.V_reads' HO_0.out).2.2 0 p1106 q1106
                        cases e1106
                        have qi1106 : (0 < x0_1.length) = True := eq_true (by omega)
                        (try rw [show ((0 : Int)).toNat = 0 from rfl] at hx1106_0)
                        (try rw [show 0 * 2 = 0 from rfl] at hx1106_0)
                        (try rw [Addr.add_zero'] at hx1106_0)
                        (try rw [show ((0 : Int)).toNat = 0 from rfl] at hx1106_1)
                        (try rw [show 0 * 2 = 0 from rfl] at hx1106_1)
                        (try rw [Addr.add_zero'] at hx1106_1)
                        replace p1106 := eq_true p1106
                        replace q1106 := eq_true q1106
                        have q21 : (1 : Int) ≤ ((x0_1.length : Int) : Int) := of_decide_eq_true asm
                        obtain ⟨i021, hi021, _, hsz21, _⟩ := info_parts info230
                        have hroom21 : x0_1.length ≤ co20 := (Kd.V_reads' HO_0.out).2.1
                        have hC21 : Kd.F k230 _ _ (some ad1106) x0_1.length x0_1 := (Kd.V_at (base := w.heap.size) HO_0.out).2.2
                        have hcut21 := cut_from (P := Tryz.prog) 203 230 .i64 Tryz.underlying203 hi021 2 hsz21 (some ad1106) x0_1.length co20 1 (by omega) q21
                        have hr21 := Kd.F_cut (m := (1 : Int).toNat) (c := co20) hC21 (by omega) hroom21
                        obtain ⟨A21, hA21⟩ : ∃ A1, A1 = (if co20 = (1 : Int).toNat then (some ad1106) else ((some ad1106) : Option Addr).map (·.add ((1 : Int).toNat * 2))) := ⟨_, rfl⟩
                        obtain ⟨c21, hc21⟩ : ∃ c1, c1 = co20 - (1 : Int).toNat := ⟨_, rfl⟩
                        have hy21 : y1107.length = x0_1.length - (1 : Int).toNat := (by rw [Ny1107.out, List.length_drop] <;> omega)
                        rw [show (x0_1).drop (1 : Int).toNat = y1107 from Ny1107.out.symm] at hr21
                        replace hr21 : Kd.F k230 _ _ A21 y1107.length y1107 := (by rw [hA21]; exact hr21)
                        rw [← hy21, ← hA21, ← hc21] at hcut21
                        have HO1111 := Aside0.mk (show Kd.V k230 230 _ w.heap.size _ (.slice A21 y1107.length c21) y1107 from Kd.V_mk (by rw [hy21, hc21]; exact Nat.sub_le_sub_right hroom21 _) hr21)
                        have HC1111 := Aside0.mk (show y1107.length ≤ c21 from by rw [hy21, hc21]; exact Nat.sub_le_sub_right hroom21 _)
                        clear hr21 hC21 hroom21 hi021 hsz21 hc21
                        have KY21 := Aside0.mk hy21
                        have KA21 := Aside0.mk hA21
                        clear hy21 hA21
                        replace q21 := eq_true q21
                        go_wp2_with (first | ((with_reducible refine gate_callee (f := 275) rfl ?_); refine goesM (some 37) Tryz.func275 #[.slice A21 y1107.length c21, .string (⟨#[46]⟩ : ByteArray)] ?_; (with_reducible refine (addr_is.calls _ _ y1107 (⟨#[46]⟩ : ByteArray) true _ ?side1 ?side2 A16.out).mono ?_); (case side1 => repeat (first | exact (Kd.V_reads' HO1111.out).2.2 | (with_reducible refine Kd.C_alloc ?_ _) | (with_reducible refine Kd.C_drewN ?_ _) | (with_reducible refine Kd.C_drew ?_))); (case side2 => exact (Kd.V_reads' HO1111.out).2.1); rintro e w' ⟨rfl, ⟨nd, rfl⟩⟩; refine ⟨_, rfl, ?_⟩; have q22 : (1 : Int) ≤ ((y1107.length : Int) : Int) := of_decide_eq_true asm; obtain ⟨i022, hi022, _, hsz22, _⟩ := info_parts info230; have hroom22 : y1107.length ≤ c21 := (Kd.V_reads' HO1111.out).2.1; have hC22 : Kd.F k230 _ _ A21 y1107.length y1107 := (Kd.V_at (base := w.heap.size) HO1111.out).2.2; have hcut22 := cut_from (P := Tryz.prog) 203 230 .i64 Tryz.underlying203 hi022 2 hsz22 A21 y1107.length c21 1 (by omega) q22; have hr22 := Kd.F_cut (m := (1 : Int).toNat) (c := c21) hC22 (by omega) hroom22; obtain ⟨A22, hA22⟩ : ∃ A1, A1 = (if c21 = (1 : Int).toNat then A21 else (A21 : Option Addr).map (·.add ((1 : Int).toNat * 2))) := ⟨_, rfl⟩; obtain ⟨c22, hc22⟩ : ∃ c1, c1 = c21 - (1 : Int).toNat := ⟨_, rfl⟩; have hy22 : y1113.length = y1107.length - (1 : Int).toNat := (by rw [Ny1113.out, List.length_drop] <;> omega); rw [show (y1107).drop (1 : Int).toNat = y1113 from Ny1113.out.symm] at hr22; replace hr22 : Kd.F k230 _ _ A22 y1113.length y1113 := (by rw [hA22]; exact hr22); rw [← hy22, ← hA22, ← hc22] at hcut22; have HO1117 := Aside0.mk (show Kd.V k230 230 _ w.heap.size _ (.slice A22 y1113.length c22) y1113 from Kd.V_mk (by rw [hy22, hc22]; exact Nat.sub_le_sub_right hroom22 _) hr22); have HC1117 := Aside0.mk (show y1113.length ≤ c22 from by rw [hy22, hc22]; exact Nat.sub_le_sub_right hroom22 _); clear hr22 hC22 hroom22 hi022 hsz22 hc22; have KY22 := Aside0.mk hy22; have KA22 := Aside0.mk hA22; clear hy22 hA22; replace q22 := eq_true q22))
                        go_roundg kj2
                        case measure => have := HK1.out; have := HJ2.out; omega
                        case rel => exact ⟨(y1113), ((x7_1 ++ ((rd_T230 x0_1 0).f1)) ++ (⟨#[46]⟩ : ByteArray)), eqv, H', ⟨by have := HK1.out; have := HJ2.out; omega⟩, ⟨by (with_reducible repeat (first | apply Kd.V_alloc | apply Kd.V_drewN | apply Kd.V_drew)); exact HO1117.out⟩, ⟨bw⟩⟩
                      · rw [if_neg c19] at H
                        exact absurd H (by simp)
                    · rw [if_neg c18] at H
                      exact absurd H (by simp)
                  · replace c17 := Bool.eq_false_iff.mpr c17
                    subst c17
                    have H1 : (some (x7_1 ++ ((rd_T230 x0_1 0).f1), y1107, true)) = some (r1, r2, r3) := by rw [if_neg (show ¬ (false = true) by decide)] at H; exact H
                    clear H
                    have H := H1
                    clear H1
                    simp only [Option.some.injEq, Prod.mk.injEq] at H
                    obtain ⟨rfl, rfl, rfl⟩ := H
                    obtain ⟨Ao23, co23, eo23⟩ := Kd.V_slice HO_0.out
                    subst eo23
                    have p1106 : 0 ≤ (0 : Int) := (by omega)
                    have q1106 : 0 < (x0_1.length : Int) := of_decide_eq_true asm
                    obtain ⟨ad1106, e1106, hx1106_0, hx1106_1⟩ := at_T230 (Kd.V_reads' HO_0.out).2.2 0 p1106 q1106
                    cases e1106
                    have qi1106 : (0 < x0_1.length) = True := eq_true (by omega)
                    (try rw [show ((0 : Int)).toNat = 0 from rfl] at hx1106_0)
                    (try rw [show 0 * 2 = 0 from rfl] at hx1106_0)
                    (try rw [Addr.add_zero'] at hx1106_0)
                    (try rw [show ((0 : Int)).toNat = 0 from rfl] at hx1106_1)
                    (try rw [show 0 * 2 = 0 from rfl] at hx1106_1)
                    (try rw [Addr.add_zero'] at hx1106_1)
                    replace p1106 := eq_true p1106
                    replace q1106 := eq_true q1106
                    have q24 : (1 : Int) ≤ ((x0_1.length : Int) : Int) := of_decide_eq_true asm
                    obtain ⟨i024, hi024, _, hsz24, _⟩ := info_parts info230
                    have hroom24 : x0_1.length ≤ co23 := (Kd.V_reads' HO_0.out).2.1
                    have hC24 : Kd.F k230 _ _ (some ad1106) x0_1.length x0_1 := (Kd.V_at (base := w.heap.size) HO_0.out).2.2
                    have hcut24 := cut_from (P := Tryz.prog) 203 230 .i64 Tryz.underlying203 hi024 2 hsz24 (some ad1106) x0_1.length co23 1 (by omega) q24
                    have hr24 := Kd.F_cut (m := (1 : Int).toNat) (c := co23) hC24 (by omega) hroom24
                    obtain ⟨A24, hA24⟩ : ∃ A1, A1 = (if co23 = (1 : Int).toNat then (some ad1106) else ((some ad1106) : Option Addr).map (·.add ((1 : Int).toNat * 2))) := ⟨_, rfl⟩
                    obtain ⟨c24, hc24⟩ : ∃ c1, c1 = co23 - (1 : Int).toNat := ⟨_, rfl⟩
                    have hy24 : y1107.length = x0_1.length - (1 : Int).toNat := (by rw [Ny1107.out, List.length_drop] <;> omega)
                    rw [show (x0_1).drop (1 : Int).toNat = y1107 from Ny1107.out.symm] at hr24
                    replace hr24 : Kd.F k230 _ _ A24 y1107.length y1107 := (by rw [hA24]; exact hr24)
                    rw [← hy24, ← hA24, ← hc24] at hcut24
                    have HO1111 := Aside0.mk (show Kd.V k230 230 _ w.heap.size _ (.slice A24 y1107.length c24) y1107 from Kd.V_mk (by rw [hy24, hc24]; exact Nat.sub_le_sub_right hroom24 _) hr24)
                    have HC1111 := Aside0.mk (show y1107.length ≤ c24 from by rw [hy24, hc24]; exact Nat.sub_le_sub_right hroom24 _)
                    clear hr24 hC24 hroom24 hi024 hsz24 hc24
                    have KY24 := Aside0.mk hy24
                    have KA24 := Aside0.mk hA24
                    clear hy24 hA24
                    replace q24 := eq_true q24
                    go_wp2_with (first | ((with_reducible refine gate_callee (f := 275) rfl ?_); refine goesM (some 37) Tryz.func275 #[.slice A24 y1107.length c24, .string (⟨#[46]⟩ : ByteArray)] ?_; (with_reducible refine (addr_is.calls _ _ y1107 (⟨#[46]⟩ : ByteArray) false _ ?side1 ?side2 A16.out).mono ?_); (case side1 => repeat (first | exact (Kd.V_reads' HO1111.out).2.2 | (with_reducible refine Kd.C_alloc ?_ _) | (with_reducible refine Kd.C_drewN ?_ _) | (with_reducible refine Kd.C_drew ?_))); (case side2 => exact (Kd.V_reads' HO1111.out).2.1); rintro e w' ⟨rfl, ⟨nd, rfl⟩⟩; refine ⟨_, rfl, ?_⟩))
                    go_ret3
                    exact ⟨_, eqe, by (with_reducible repeat (first | apply Kd.V_alloc | apply Kd.V_drewN | apply Kd.V_drew)); exact HO1111.out, bw⟩
                · rw [if_neg c15] at H
                  exact absurd H (by simp)
              · rw [if_neg c14] at H
                exact absurd H (by simp)
            · rw [if_neg c13] at H
              exact absurd H (by simp)
end Go.Proofs.YtjohcncekfcgpaaGreatDoor.P
end
