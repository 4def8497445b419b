/- A part of the proof of the card of MsgLines. -/
import Derived.Test.YtjohcncekfcgpaaGreatDoorZMLs02
import Derived.Test.YtjohcncekfcgpaaGreatDoorZMLs05
import Derived.Test.YtjohcncekfcgpaaGreatDoorZMLs04
import Derived.Test.YtjohcncekfcgpaaGreatDoorZMLs07
import Derived.Test.YtjohcncekfcgpaaGreatDoorZMLs06
set_option linter.unusedVariables false
set_option linter.unusedSimpArgs false
section
namespace Go.Proofs.YtjohcncekfcgpaaGreatDoor.P
open Go.RowKit Go.Proofs.YtjohcncekfcgpaaGreatDoorW.PrintWords Go.Proofs.YtjohcncekfcgpaaGreatDoorW.PrintLast Go.Proofs.YtjohcncekfcgpaaGreatDoorW.PrintMore
attribute [local go_sem] max2_int min2_int max_two min_two max_three min_three max_four min_four
set_option linter.unusedVariables false
set_option linter.unusedSimpArgs false
def addr_Addr_Text.f (k : Nat) (a0_0 : ByteArray) (a0_1 : ByteArray) : Option (ByteArray) := (addr_Dotted.f a0_0).bind fun t309 => (if t309 = true then (if a0_0.size + 1 ≤ 9223372036854775807 then (if (a0_0 ++ (⟨#[64]⟩ : ByteArray)).size + a0_1.size ≤ 9223372036854775807 then (some ((a0_0 ++ (⟨#[64]⟩ : ByteArray)) ++ a0_1)) else (none)) else (none)) else ((lex_Quote.f k a0_0).bind fun t310 => (if t310.size + 1 ≤ 9223372036854775807 then (if (t310 ++ (⟨#[64]⟩ : ByteArray)).size + a0_1.size ≤ 9223372036854775807 then (some ((t310 ++ (⟨#[64]⟩ : ByteArray)) ++ a0_1)) else (none)) else (none))))
theorem addr_Addr_Text.mono : ∀ a0 a1 k, LeO (addr_Addr_Text.f k a0 a1) (addr_Addr_Text.f (k + 1) a0 a1) := by
  intro a0 a1 k
  unfold addr_Addr_Text.f
  repeat' first
      | (with_reducible exact lex_Quote.mono _ _)
      | (with_reducible exact LeO.refl _)
      | (with_reducible exact LeO.none _)
      | (with_reducible refine LeO.ite ?_ ?_)
      | (with_reducible refine LeO.bind ?_ (fun _ => ?_))
      | exact lex_Quote.mono _ _
      | exact LeO.none _
      | refine LeO.ite ?_ ?_
      | refine LeO.bind ?_ (fun _ => ?_)
set_option maxHeartbeats 8000000 in
set_option maxRecDepth 100000 in
theorem addr_Addr_Text.calls (k : Nat) (a0_0 : ByteArray) (a0_1 : ByteArray) (r : ByteArray) (w : World) (h : addr_Addr_Text.f k a0_0 a0_1 = some r) (hGU : GU w := by exact gUT) :
    Calls Tryz.prog 127 #[.agg #[.string a0_0, .string a0_1]] w fun e w' => e = .returned (.string r) ∧ Below w.heap.size w w' := by
  have hu54 := Tryz.underlying54
  have HB := Aside0.mk (Below.refl w.heap.size w)
  have H : ((addr_Dotted.f a0_0).bind fun t309 => (if t309 = true then (if a0_0.size + 1 ≤ 9223372036854775807 then (if (a0_0 ++ (⟨#[64]⟩ : ByteArray)).size + a0_1.size ≤ 9223372036854775807 then (some ((a0_0 ++ (⟨#[64]⟩ : ByteArray)) ++ a0_1)) else (none)) else (none)) else ((lex_Quote.f k a0_0).bind fun t310 => (if t310.size + 1 ≤ 9223372036854775807 then (if (t310 ++ (⟨#[64]⟩ : ByteArray)).size + a0_1.size ≤ 9223372036854775807 then (some ((t310 ++ (⟨#[64]⟩ : ByteArray)) ++ a0_1)) else (none)) else (none))))) = some r := h
  clear h
  replace H := Option.bind_eq_some_iff.mp H
  obtain ⟨t309, A20, H⟩ := H
  replace H : (if t309 = true then (if a0_0.size + 1 ≤ 9223372036854775807 then (if (a0_0 ++ (⟨#[64]⟩ : ByteArray)).size + a0_1.size ≤ 9223372036854775807 then (some ((a0_0 ++ (⟨#[64]⟩ : ByteArray)) ++ a0_1)) else (none)) else (none)) else ((lex_Quote.f k a0_0).bind fun t310 => (if t310.size + 1 ≤ 9223372036854775807 then (if (t310 ++ (⟨#[64]⟩ : ByteArray)).size + a0_1.size ≤ 9223372036854775807 then (some ((t310 ++ (⟨#[64]⟩ : ByteArray)) ++ a0_1)) else (none)) else (none)))) = some r := H
  have A2 := Aside0.mk A20
  clear A20
  by_cases c3 : t309 = true
  · subst c3
    have H1 : (if a0_0.size + 1 ≤ 9223372036854775807 then (if (a0_0 ++ (⟨#[64]⟩ : ByteArray)).size + a0_1.size ≤ 9223372036854775807 then (some ((a0_0 ++ (⟨#[64]⟩ : ByteArray)) ++ a0_1)) else (none)) else (none)) = some r := by rw [if_pos rfl] at H; exact H
    clear H
    have H := H1
    clear H1
    by_cases c4 : a0_0.size + 1 ≤ 9223372036854775807
    · rw [if_pos c4] at H
      have c4b0 := eq_true c4
      have c4b1 : decide (a0_0.size + 1 ≤ 9223372036854775807) = true := decide_eq_true c4
      try have c4b2 : (9223372036854775807 < a0_0.size + 1) = False := eq_false (Nat.not_lt.2 c4)
      by_cases c5 : (a0_0 ++ (⟨#[64]⟩ : ByteArray)).size + a0_1.size ≤ 9223372036854775807
      · rw [if_pos c5] at H
        have c5b0 := eq_true c5
        have c5b1 : decide ((a0_0 ++ (⟨#[64]⟩ : ByteArray)).size + a0_1.size ≤ 9223372036854775807) = true := decide_eq_true c5
        try have c5b2 : (9223372036854775807 < (a0_0 ++ (⟨#[64]⟩ : ByteArray)).size + a0_1.size) = False := eq_false (Nat.not_lt.2 c5)
        (try (have c5v0 : (9223372036854775807 < a0_0.size + 1 + a0_1.size) = False := eq_false (Nat.not_lt.2 (by have h_ := c5; (try simp only [ByteArray.size_append, ByteArray.size_extract] at h_); exact h_))))
        obtain rfl := Option.some.inj H
        go_enter Tryz.func127, Tryz.ntmps127
        go_wp2_with (first | ((with_reducible refine gate_dst (N := 1) rfl ?_); refine boxE 1 #[.string a0_0, .string a0_1] 54 ?_; intro gb308 hg w6 hbox hb; have n0_ := Aside0.mk (below_step bw hb); have n1_ := Aside0.mk (hbox); have n2_ := Aside0.mk ((bz hg : w.heap.size ≤ gb308)); have n3_ := Aside0.mk ((bz hg : w.heap.size ≤ gb308)); clear HB; have HB := n0_; have BK308 := n1_; have GW308 := n2_; have GE308 := n3_; clear n0_ n1_ n2_ n3_; clear hb hbox hg; have hcz7_0 : w6.cell? ⟨gb308, 0, none⟩ = some (.string a0_0) := (blk_cell BK308.out 0).trans rfl; have hcz7_1 : w6.cell? ⟨gb308, 1, none⟩ = some (.string a0_1) := (blk_cell BK308.out 1).trans rfl; have hfz7_0 := blk_frozen BK308.out 0; have hfz7_1 := blk_frozen BK308.out 1) | ((with_reducible refine gate_callee (f := 179) rfl ?_); refine goesM (some 7) Tryz.func179 #[.string a0_0] ?_; (with_reducible refine (addr_Dotted.calls a0_0 true _ A2.out).mono ?_); rintro e w8 ⟨rfl, hb⟩; refine ⟨_, rfl, ?_⟩; have n0_ := Aside0.mk (bb BK308 hb); have n1_ := Aside0.mk (below_step bw hb); clear BK308; clear HB; have BK308 := n0_; have HB := n1_; clear n0_ n1_; (try clear hb); (try clear hb2); (try clear hk); (try clear hi); have hcz9_0 : w8.cell? ⟨gb308, 0, none⟩ = some (.string a0_0) := (blk_cell BK308.out 0).trans rfl; have hcz9_1 : w8.cell? ⟨gb308, 1, none⟩ = some (.string a0_1) := (blk_cell BK308.out 1).trans rfl; have hfz9_0 := blk_frozen BK308.out 0; have hfz9_1 := blk_frozen BK308.out 1))
        go_ret
        exact ⟨eqe, bw⟩
      · rw [if_neg c5] at H
        exact absurd H (by simp)
    · rw [if_neg c4] at H
      exact absurd H (by simp)
  · replace c3 := Bool.eq_false_iff.mpr c3
    subst c3
    have H1 : ((lex_Quote.f k a0_0).bind fun t310 => (if t310.size + 1 ≤ 9223372036854775807 then (if (t310 ++ (⟨#[64]⟩ : ByteArray)).size + a0_1.size ≤ 9223372036854775807 then (some ((t310 ++ (⟨#[64]⟩ : ByteArray)) ++ a0_1)) else (none)) else (none))) = some r := by rw [if_neg (show ¬ (false = true) by decide)] at H; exact H
    clear H
    have H := H1
    clear H1
    replace H := Option.bind_eq_some_iff.mp H
    obtain ⟨t310, A100, H⟩ := H
    replace H : (if t310.size + 1 ≤ 9223372036854775807 then (if (t310 ++ (⟨#[64]⟩ : ByteArray)).size + a0_1.size ≤ 9223372036854775807 then (some ((t310 ++ (⟨#[64]⟩ : ByteArray)) ++ a0_1)) else (none)) else (none)) = some r := H
    have A10 := Aside0.mk A100
    clear A100
    by_cases c11 : t310.size + 1 ≤ 9223372036854775807
    · rw [if_pos c11] at H
      have c11b0 := eq_true c11
      have c11b1 : decide (t310.size + 1 ≤ 9223372036854775807) = true := decide_eq_true c11
      try have c11b2 : (9223372036854775807 < t310.size + 1) = False := eq_false (Nat.not_lt.2 c11)
      by_cases c12 : (t310 ++ (⟨#[64]⟩ : ByteArray)).size + a0_1.size ≤ 9223372036854775807
      · rw [if_pos c12] at H
        have c12b0 := eq_true c12
        have c12b1 : decide ((t310 ++ (⟨#[64]⟩ : ByteArray)).size + a0_1.size ≤ 9223372036854775807) = true := decide_eq_true c12
        try have c12b2 : (9223372036854775807 < (t310 ++ (⟨#[64]⟩ : ByteArray)).size + a0_1.size) = False := eq_false (Nat.not_lt.2 c12)
        (try (have c12v0 : (9223372036854775807 < t310.size + 1 + a0_1.size) = False := eq_false (Nat.not_lt.2 (by have h_ := c12; (try simp only [ByteArray.size_append, ByteArray.size_extract] at h_); exact h_))))
        obtain rfl := Option.some.inj H
        go_enter Tryz.func127, Tryz.ntmps127
        go_wp2_with (first | ((with_reducible refine gate_dst (N := 1) rfl ?_); refine boxE 1 #[.string a0_0, .string a0_1] 54 ?_; intro gb308 hg w13 hbox hb; have n0_ := Aside0.mk (below_step bw hb); have n1_ := Aside0.mk (hbox); have n2_ := Aside0.mk ((bz hg : w.heap.size ≤ gb308)); have n3_ := Aside0.mk ((bz hg : w.heap.size ≤ gb308)); clear HB; have HB := n0_; have BK308 := n1_; have GW308 := n2_; have GE308 := n3_; clear n0_ n1_ n2_ n3_; clear hb hbox hg; have hcz14_0 : w13.cell? ⟨gb308, 0, none⟩ = some (.string a0_0) := (blk_cell BK308.out 0).trans rfl; have hcz14_1 : w13.cell? ⟨gb308, 1, none⟩ = some (.string a0_1) := (blk_cell BK308.out 1).trans rfl; have hfz14_0 := blk_frozen BK308.out 0; have hfz14_1 := blk_frozen BK308.out 1) | ((with_reducible refine gate_callee (f := 179) rfl ?_); refine goesM (some 7) Tryz.func179 #[.string a0_0] ?_; (with_reducible refine (addr_Dotted.calls a0_0 false _ A2.out).mono ?_); rintro e w15 ⟨rfl, hb⟩; refine ⟨_, rfl, ?_⟩; have n0_ := Aside0.mk (bb BK308 hb); have n1_ := Aside0.mk (below_step bw hb); clear BK308; clear HB; have BK308 := n0_; have HB := n1_; clear n0_ n1_; (try clear hb); (try clear hb2); (try clear hk); (try clear hi)) | ((with_reducible refine gate_callee (f := 180) rfl ?_); refine goesM (some 10) Tryz.func180 #[.string a0_0] ?_; (with_reducible refine (lex_Quote.calls k a0_0 t310 _ A10.out).mono ?_); rintro e w16 ⟨rfl, hb⟩; refine ⟨_, rfl, ?_⟩; have n0_ := Aside0.mk (bb BK308 hb); have n1_ := Aside0.mk (below_step bw hb); clear BK308; clear HB; have BK308 := n0_; have HB := n1_; clear n0_ n1_; (try clear hb); (try clear hb2); (try clear hk); (try clear hi); have hcz17_0 : w16.cell? ⟨gb308, 0, none⟩ = some (.string a0_0) := (blk_cell BK308.out 0).trans rfl; have hcz17_1 : w16.cell? ⟨gb308, 1, none⟩ = some (.string a0_1) := (blk_cell BK308.out 1).trans rfl; have hfz17_0 := blk_frozen BK308.out 0; have hfz17_1 := blk_frozen BK308.out 1))
        go_ret
        exact ⟨eqe, bw⟩
      · rw [if_neg c12] at H
        exact absurd H (by simp)
    · rw [if_neg c11] at H
      exact absurd H (by simp)
end Go.Proofs.YtjohcncekfcgpaaGreatDoor.P
end
section
namespace Go.Proofs.YtjohcncekfcgpaaGreatDoor.P
open Go.RowKit Go.Proofs.YtjohcncekfcgpaaGreatDoorW.PrintWords Go.Proofs.YtjohcncekfcgpaaGreatDoorW.PrintLast Go.Proofs.YtjohcncekfcgpaaGreatDoorW.PrintMore
attribute [local go_sem] max2_int min2_int max_two min_two max_three min_three max_four min_four
set_option linter.unusedVariables false
set_option linter.unusedSimpArgs false
def addr_why.j0 : Nat → Int → Bool → ByteArray → ByteArray → Option (Int)
  | 0, _, _, _, _ => none
  | k + 1, x3, x19, x1119000, x1119001 => if x19 = true then (some 130) else (if x3 = 0 then (if (x1119000.size : Int) > 64 then (some 2) else ((addr_Addr_Text.f k x1119000 x1119001).bind fun t1121 => (if (t1121.size : Int) > 254 then (some 2) else (some 0)))) else (some 2))
def addr_why.f (k : Nat) (a0_0 : ByteArray) (a0_1 : ByteArray) : Option (Int) := (addr_domain.f a0_1).bind fun t1119 => (if t1119 = 130 then (addr_why.j0 k t1119 true a0_0 a0_1) else (if a0_0.toList = ([] : List UInt8) then (addr_why.j0 k t1119 true a0_0 a0_1) else ((glyph_Plain.f a0_0).bind fun t1120 => (addr_why.j0 k t1119 (!t1120) a0_0 a0_1))))
theorem addr_why.mono_l : ∀ k, (∀ y0 y1 y2 y3, LeO (addr_why.j0 k y0 y1 y2 y3) (addr_why.j0 (k + 1) y0 y1 y2 y3))
  | 0 => fun _ _ _ _ r h => by simp [addr_why.j0] at h
  | k + 1 => by
    have ih0 := addr_why.mono_l k
    · intro y0 y1 y2 y3
      unfold addr_why.j0
      repeat' first
      | (with_reducible exact ih0 _ _ _ _)
      | (with_reducible exact addr_Addr_Text.mono _ _ _)
      | (with_reducible exact LeO.refl _)
      | (with_reducible exact LeO.none _)
      | (with_reducible refine LeO.ite ?_ ?_)
      | (with_reducible refine LeO.bind ?_ (fun _ => ?_))
      | exact ih0 _ _ _ _
      | exact addr_Addr_Text.mono _ _ _
      | exact LeO.none _
      | refine LeO.ite ?_ ?_
      | refine LeO.bind ?_ (fun _ => ?_)
theorem addr_why.mono : ∀ a0 a1 k, LeO (addr_why.f k a0 a1) (addr_why.f (k + 1) a0 a1) := by
  intro a0 a1 k
  have ih0 := addr_why.mono_l k
  unfold addr_why.f
  repeat' first
      | (with_reducible exact ih0 _ _ _ _)
      | (with_reducible exact addr_Addr_Text.mono _ _ _)
      | (with_reducible exact LeO.refl _)
      | (with_reducible exact LeO.none _)
      | (with_reducible refine LeO.ite ?_ ?_)
      | (with_reducible refine LeO.bind ?_ (fun _ => ?_))
      | exact ih0 _ _ _ _
      | exact addr_Addr_Text.mono _ _ _
      | exact LeO.none _
      | refine LeO.ite ?_ ?_
      | refine LeO.bind ?_ (fun _ => ?_)
set_option maxHeartbeats 8000000 in
set_option maxRecDepth 100000 in
theorem addr_why.calls (k : Nat) (a0_0 : ByteArray) (a0_1 : ByteArray) (r : Int) (w : World) (h : addr_why.f k a0_0 a0_1 = some r) (hGU : GU w := by exact gUT) :
    Calls Tryz.prog 276 #[.agg #[.string a0_0, .string a0_1]] w fun e w' => e = .returned (.int .i64 r) ∧ Below w.heap.size w w' := by
  have hu54 := Tryz.underlying54
  have HB := Aside0.mk (Below.refl w.heap.size w)
  have H : ((addr_domain.f a0_1).bind fun t1119 => (if t1119 = 130 then (addr_why.j0 k t1119 true a0_0 a0_1) else (if a0_0.toList = ([] : List UInt8) then (addr_why.j0 k t1119 true a0_0 a0_1) else ((glyph_Plain.f a0_0).bind fun t1120 => (addr_why.j0 k t1119 (!t1120) a0_0 a0_1))))) = some r := h
  clear h
  replace H := Option.bind_eq_some_iff.mp H
  obtain ⟨t1119, A20, H⟩ := H
  replace H : (if t1119 = 130 then (addr_why.j0 k t1119 true a0_0 a0_1) else (if a0_0.toList = ([] : List UInt8) then (addr_why.j0 k t1119 true a0_0 a0_1) else ((glyph_Plain.f a0_0).bind fun t1120 => (addr_why.j0 k t1119 (!t1120) a0_0 a0_1)))) = some r := H
  have A2 := Aside0.mk A20
  clear A20
  have HC3 := Aside0.mk H
  clear H
  go_enter Tryz.func276, Tryz.ntmps276
  go_upto_region 2 with (first | ((with_reducible refine gate_dst (N := 1) rfl ?_); (try (refine gate_guard (by rfl) ?_; dsimp only)); refine boxE 1 #[.string a0_0, .string a0_1] 54 ?_; intro gb1118 hg w4 hbox hb; have n0_ := Aside0.mk (below_step bw hb); have n1_ := Aside0.mk (hbox); have n2_ := Aside0.mk ((bz hg : w.heap.size ≤ gb1118)); have n3_ := Aside0.mk ((bz hg : w.heap.size ≤ gb1118)); clear HB; have HB := n0_; have BK1118 := n1_; have GW1118 := n2_; have GE1118 := n3_; clear n0_ n1_ n2_ n3_; clear hb hbox hg; have hcz5_0 : w4.cell? ⟨gb1118, 0, none⟩ = some (.string a0_0) := (blk_cell BK1118.out 0).trans rfl; have hcz5_1 : w4.cell? ⟨gb1118, 1, none⟩ = some (.string a0_1) := (blk_cell BK1118.out 1).trans rfl; have hfz5_0 := blk_frozen BK1118.out 0; have hfz5_1 := blk_frozen BK1118.out 1) | ((with_reducible refine gate_callee (f := 278) rfl ?_); refine goesM (some 6) Tryz.func278 #[.string a0_1] ?_; (with_reducible refine (addr_domain.calls a0_1 t1119 _ A2.out).mono ?_); rintro e w6 ⟨rfl, hb⟩; refine ⟨_, rfl, ?_⟩; have n0_ := Aside0.mk (bb BK1118 hb); have n1_ := Aside0.mk (below_step bw hb); clear BK1118; clear HB; have BK1118 := n0_; have HB := n1_; clear n0_ n1_; (try clear hb); (try clear hb2); (try clear hk); (try clear hi)))
  (try simp only [Act.put, List.setIfInBounds_toArray, List.set_cons_zero, List.set_cons_succ])
  go_cut [19] (fun v19 wc => ∃ (kq : Nat) (x19_2 : Bool), v19 = .bool x19_2 ∧ Aside0 (addr_why.j0 kq t1119 x19_2 a0_0 a0_1 = some r) ∧ Aside0 (kq ≤ k) ∧ Aside0 (wc.heap[gb1118]? = some (.cells #[.string a0_0, .string a0_1] 54 (0, 0))) ∧ Aside0 (Below w.heap.size w wc))
  case first =>
    have H := HC3.out
    clear HC3
    by_cases c7 : t1119 = 130
    · rw [if_pos c7] at H
      have c7b0 : (t1119 == 130) = true := beq_iff_eq.mpr c7
      have c7b1 : (t1119 != 130) = false := bne_eq_false_iff_eq.mpr c7
      clear c7
      (first | rw [c7b0] | (simp only [i64_w, i32_w]; rw [c7b0]) | rw [c7bE] | skip)
      have H' := Aside0.mk H
      clear H
      go_wp2
      go_meet
      case rel => exact ⟨_, (true), eqv, H', ⟨by first | omega | exact Nat.le_refl _⟩, ⟨bk⟩, ⟨bw⟩⟩
    · rw [if_neg c7] at H
      have c7b0 : (t1119 == 130) = false := beq_eq_false_iff_ne.mpr c7
      have c7b1 : (t1119 != 130) = true := bne_iff_ne.mpr c7
      (first | rw [c7b0] | (simp only [i64_w, i32_w]; rw [c7b0]) | rw [c7bE] | skip)
      by_cases c8 : a0_0.toList = ([] : List UInt8)
      · rw [if_pos c8] at H
        have c8b0 : (a0_0.toList == ([] : List UInt8)) = true := beq_iff_eq.mpr c8
        have c8b1 : (a0_0.toList != ([] : List UInt8)) = false := bne_eq_false_iff_eq.mpr c8
        have c8bE : (a0_0.toList).isEmpty = true := List.isEmpty_iff.mpr c8
        clear c8
        have H' := Aside0.mk H
        clear H
        have hcz9_0 : w6.cell? ⟨gb1118, 0, none⟩ = some (.string a0_0) := (blk_cell BK1118.out 0).trans rfl
        have hcz9_1 : w6.cell? ⟨gb1118, 1, none⟩ = some (.string a0_1) := (blk_cell BK1118.out 1).trans rfl
        have hfz9_0 := blk_frozen BK1118.out 0
        have hfz9_1 := blk_frozen BK1118.out 1
        go_wp2
        go_meet
        case rel => exact ⟨_, (true), eqv, H', ⟨by first | omega | exact Nat.le_refl _⟩, ⟨bk⟩, ⟨bw⟩⟩
      · rw [if_neg c8] at H
        have c8b0 : (a0_0.toList == ([] : List UInt8)) = false := beq_eq_false_iff_ne.mpr c8
        have c8b1 : (a0_0.toList != ([] : List UInt8)) = true := bne_iff_ne.mpr c8
        have c8bE : (a0_0.toList).isEmpty = false := List.isEmpty_eq_false_iff.mpr c8
        replace H := Option.bind_eq_some_iff.mp H
        obtain ⟨t1120, A100, H⟩ := H
        replace H : (addr_why.j0 k t1119 (!t1120) a0_0 a0_1) = some r := H
        have A10 := Aside0.mk A100
        clear A100
        have H' := Aside0.mk H
        clear H
        have hcz11_0 : w6.cell? ⟨gb1118, 0, none⟩ = some (.string a0_0) := (blk_cell BK1118.out 0).trans rfl
        have hcz11_1 : w6.cell? ⟨gb1118, 1, none⟩ = some (.string a0_1) := (blk_cell BK1118.out 1).trans rfl
        have hfz11_0 := blk_frozen BK1118.out 0
        have hfz11_1 := blk_frozen BK1118.out 1
        go_wp2_with (first | (go_at_call 171; (with_reducible refine (glyph_Plain.calls a0_0 t1120 _ A10.out).mono ?_); rintro e w12 ⟨rfl, hb⟩; have n0_ := Aside0.mk (bb BK1118 hb); have n1_ := Aside0.mk (below_step bw hb); clear BK1118; clear HB; have BK1118 := n0_; have HB := n1_; clear n0_ n1_; (try clear hb); (try clear hb2); (try clear hk); (try clear hi)))
        go_meet
        case rel => exact ⟨_, (!t1120), eqv, H', ⟨by first | omega | exact Nat.le_refl _⟩, ⟨bk⟩, ⟨bw⟩⟩
  case rest =>
    clear HC3
    try clear c2
    try clear p2
    try clear c7
    try clear c7b0
    try clear c7b1
    try clear c8
    try clear c8b0
    try clear c8b1
    try clear hcz11_0
    try clear hcz11_1
    try clear hcz5_0
    try clear hcz5_1
    try clear hcz9_0
    try clear hcz9_1
    try clear hfz11_0
    try clear hfz11_1
    try clear hfz5_0
    try clear hfz5_1
    try clear hfz9_0
    try clear hfz9_1
    obtain ⟨kq, x19_2, rfl, HA, HJ2, BK1118, HB⟩ := hcut
    cases kq with
    | zero => exact absurd HA.out (by simp [addr_why.j0])
    | succ kj2 =>
      have H := HA.out
      clear HA
      simp only [addr_why.j0] at H
      by_cases c13 : x19_2 = true
      · subst c13
        have H1 : (some 130) = some r := by rw [if_pos rfl] at H; exact H
        clear H
        have H := H1
        clear H1
        obtain rfl := Option.some.inj H
        go_wp2
        go_ret
        exact ⟨eqe, bw⟩
      · replace c13 := Bool.eq_false_iff.mpr c13
        subst c13
        have H1 : (if t1119 = 0 then (if (a0_0.size : Int) > 64 then (some 2) else ((addr_Addr_Text.f kj2 a0_0 a0_1).bind fun t1121 => (if (t1121.size : Int) > 254 then (some 2) else (some 0)))) else (some 2)) = some r := by rw [if_neg (show ¬ (false = true) by decide)] at H; exact H
        clear H
        have H := H1
        clear H1
        by_cases c14 : t1119 = 0
        · rw [if_pos c14] at H
          have c14b0 : (t1119 == 0) = true := beq_iff_eq.mpr c14
          have c14b1 : (t1119 != 0) = false := bne_eq_false_iff_eq.mpr c14
          clear c14
          by_cases c15 : (a0_0.size : Int) > 64
          · rw [if_pos c15] at H
            have c15b0 : decide (64 < (a0_0.size : Int)) = true := decide_eq_true c15
            have c15b1 : decide (64 < a0_0.size) = true := decide_eq_true (by omega)
            clear c15
            obtain rfl := Option.some.inj H
            have hcz16_0 : wc.cell? ⟨gb1118, 0, none⟩ = some (.string a0_0) := (blk_cell BK1118.out 0).trans rfl
            have hcz16_1 : wc.cell? ⟨gb1118, 1, none⟩ = some (.string a0_1) := (blk_cell BK1118.out 1).trans rfl
            have hfz16_0 := blk_frozen BK1118.out 0
            have hfz16_1 := blk_frozen BK1118.out 1
            go_wp2
            go_ret
            exact ⟨eqe, bw⟩
          · rw [if_neg c15] at H
            have c15b0 : decide (64 < (a0_0.size : Int)) = false := decide_eq_false c15
            have c15b1 : decide (64 < a0_0.size) = false := decide_eq_false (by omega)
            clear c15
            replace H := Option.bind_eq_some_iff.mp H
            obtain ⟨t1121, A170, H⟩ := H
            replace H : (if (t1121.size : Int) > 254 then (some 2) else (some 0)) = some r := H
            have A17 := Aside0.mk A170
            clear A170
            by_cases c18 : (t1121.size : Int) > 254
            · rw [if_pos c18] at H
              have c18b0 : decide (254 < (t1121.size : Int)) = true := decide_eq_true c18
              have c18b1 : decide (254 < t1121.size) = true := decide_eq_true (by omega)
              clear c18
              obtain rfl := Option.some.inj H
              have hcz19_0 : wc.cell? ⟨gb1118, 0, none⟩ = some (.string a0_0) := (blk_cell BK1118.out 0).trans rfl
              have hcz19_1 : wc.cell? ⟨gb1118, 1, none⟩ = some (.string a0_1) := (blk_cell BK1118.out 1).trans rfl
              have hfz19_0 := blk_frozen BK1118.out 0
              have hfz19_1 := blk_frozen BK1118.out 1
              go_wp2_with (first | (go_at_call 127; (with_reducible refine (addr_Addr_Text.calls kj2 a0_0 a0_1 t1121 _ A17.out).mono ?_); rintro e w20 ⟨rfl, hb⟩; have n0_ := Aside0.mk (bb BK1118 hb); have n1_ := Aside0.mk (below_step bw hb); clear BK1118; clear HB; have BK1118 := n0_; have HB := n1_; clear n0_ n1_; (try clear hb); (try clear hb2); (try clear hk); (try clear hi)))
              go_ret
              exact ⟨eqe, bw⟩
            · rw [if_neg c18] at H
              have c18b0 : decide (254 < (t1121.size : Int)) = false := decide_eq_false c18
              have c18b1 : decide (254 < t1121.size) = false := decide_eq_false (by omega)
              clear c18
              obtain rfl := Option.some.inj H
              have hcz21_0 : wc.cell? ⟨gb1118, 0, none⟩ = some (.string a0_0) := (blk_cell BK1118.out 0).trans rfl
              have hcz21_1 : wc.cell? ⟨gb1118, 1, none⟩ = some (.string a0_1) := (blk_cell BK1118.out 1).trans rfl
              have hfz21_0 := blk_frozen BK1118.out 0
              have hfz21_1 := blk_frozen BK1118.out 1
              go_wp2_with (first | (go_at_call 127; (with_reducible refine (addr_Addr_Text.calls kj2 a0_0 a0_1 t1121 _ A17.out).mono ?_); rintro e w22 ⟨rfl, hb⟩; have n0_ := Aside0.mk (bb BK1118 hb); have n1_ := Aside0.mk (below_step bw hb); clear BK1118; clear HB; have BK1118 := n0_; have HB := n1_; clear n0_ n1_; (try clear hb); (try clear hb2); (try clear hk); (try clear hi)))
              go_ret
              exact ⟨eqe, bw⟩
        · rw [if_neg c14] at H
          have c14b0 : (t1119 == 0) = false := beq_eq_false_iff_ne.mpr c14
          have c14b1 : (t1119 != 0) = true := bne_iff_ne.mpr c14
          obtain rfl := Option.some.inj H
          go_wp2
          go_ret
          exact ⟨eqe, bw⟩
end Go.Proofs.YtjohcncekfcgpaaGreatDoor.P
end
section
namespace Go.Proofs.YtjohcncekfcgpaaGreatDoor.P
open Go.RowKit Go.Proofs.YtjohcncekfcgpaaGreatDoorW.PrintWords Go.Proofs.YtjohcncekfcgpaaGreatDoorW.PrintLast Go.Proofs.YtjohcncekfcgpaaGreatDoorW.PrintMore
attribute [local go_sem] max2_int min2_int max_two min_two max_three min_three max_four min_four
set_option linter.unusedVariables false
set_option linter.unusedSimpArgs false
mutual
def addr_Of.j0 : Nat → List (S230) → ByteArray → Bool → Option (ByteArray × ByteArray × Int)
  | 0, _, _, _ => none
  | k + 1, x0, x4, x21 => if x21 = true then (some ((⟨#[]⟩ : ByteArray), (⟨#[]⟩ : ByteArray), 130)) else (if 1 ≤ (x0.length : Int) then ((addr_joined.f k (x0.drop 1) true).bind fun bt1134 => (if bt1134.2.2 = true then (addr_Of.j1 k x4 bt1134.1 (decide ((bt1134.2.1.length : Int) > 0))) else (addr_Of.j1 k x4 bt1134.1 true))) else (none))
def addr_Of.j1 : Nat → ByteArray → ByteArray → Bool → Option (ByteArray × ByteArray × Int)
  | 0, _, _, _ => none
  | k + 1, x4, x6, x36 => if x36 = true then (some ((⟨#[]⟩ : ByteArray), (⟨#[]⟩ : ByteArray), 130)) else ((glyph_Fold.f x6).bind fun t1139 => ((addr_why.f k x4 t1139).bind fun t1141 => (if t1141 = 0 then (some (x4, t1139, 0)) else (some ((⟨#[]⟩ : ByteArray), (⟨#[]⟩ : ByteArray), t1141)))))
end
def addr_Of.f (k : Nat) (l0 : List (S230)) : Option (ByteArray × ByteArray × Int) := (addr_joined.f k l0 false).bind fun bt1123 => (if bt1123.2.2 = true then ((addr_is.f bt1123.2.1 (⟨#[64]⟩ : ByteArray)).bind fun t1128 => (addr_Of.j0 k bt1123.2.1 bt1123.1 (!t1128))) else (addr_Of.j0 k bt1123.2.1 bt1123.1 true))
theorem addr_Of.mono_l : ∀ k, (∀ y0 y1 y2, LeO (addr_Of.j0 k y0 y1 y2) (addr_Of.j0 (k + 1) y0 y1 y2)) ∧ (∀ y0 y1 y2, LeO (addr_Of.j1 k y0 y1 y2) (addr_Of.j1 (k + 1) y0 y1 y2))
  | 0 => ⟨fun _ _ _ r h => by simp [addr_Of.j0] at h, fun _ _ _ r h => by simp [addr_Of.j1] at h⟩
  | k + 1 => by
    obtain ⟨ih0, ih1⟩ := addr_Of.mono_l k
    refine ⟨?_, ?_⟩
    · intro y0 y1 y2
      unfold addr_Of.j0
      repeat' first
      | (with_reducible exact ih0 _ _ _)
      | (with_reducible exact ih1 _ _ _)
      | (with_reducible exact addr_joined.mono _ _ _)
      | (with_reducible exact addr_why.mono _ _ _)
      | (with_reducible exact LeO.refl _)
      | (with_reducible exact LeO.none _)
      | (with_reducible refine LeO.ite ?_ ?_)
      | (with_reducible refine LeO.bind ?_ (fun _ => ?_))
      | exact ih0 _ _ _
      | exact ih1 _ _ _
      | exact addr_joined.mono _ _ _
      | exact addr_why.mono _ _ _
      | exact LeO.none _
      | refine LeO.ite ?_ ?_
      | refine LeO.bind ?_ (fun _ => ?_)
    · intro y0 y1 y2
      unfold addr_Of.j1
      repeat' first
      | (with_reducible exact ih0 _ _ _)
      | (with_reducible exact ih1 _ _ _)
      | (with_reducible exact addr_joined.mono _ _ _)
      | (with_reducible exact addr_why.mono _ _ _)
      | (with_reducible exact LeO.refl _)
      | (with_reducible exact LeO.none _)
      | (with_reducible refine LeO.ite ?_ ?_)
      | (with_reducible refine LeO.bind ?_ (fun _ => ?_))
      | exact ih0 _ _ _
      | exact ih1 _ _ _
      | exact addr_joined.mono _ _ _
      | exact addr_why.mono _ _ _
      | exact LeO.none _
      | refine LeO.ite ?_ ?_
      | refine LeO.bind ?_ (fun _ => ?_)
theorem addr_Of.mono : ∀ a0 k, LeO (addr_Of.f k a0) (addr_Of.f (k + 1) a0) := by
  intro a0 k
  obtain ⟨ih0, ih1⟩ := addr_Of.mono_l k
  unfold addr_Of.f
  repeat' first
      | (with_reducible exact ih0 _ _ _)
      | (with_reducible exact ih1 _ _ _)
      | (with_reducible exact addr_joined.mono _ _ _)
      | (with_reducible exact addr_why.mono _ _ _)
      | (with_reducible exact LeO.refl _)
      | (with_reducible exact LeO.none _)
      | (with_reducible refine LeO.ite ?_ ?_)
      | (with_reducible refine LeO.bind ?_ (fun _ => ?_))
      | exact ih0 _ _ _
      | exact ih1 _ _ _
      | exact addr_joined.mono _ _ _
      | exact addr_why.mono _ _ _
      | exact LeO.none _
      | refine LeO.ite ?_ ?_
      | refine LeO.bind ?_ (fun _ => ?_)
set_option maxHeartbeats 8000000 in
set_option maxRecDepth 100000 in
theorem addr_Of.calls (k : Nat) (A0 : Option Addr) (c0 : Nat) (l0 : List (S230)) (r1 : ByteArray) (r2 : ByteArray) (r3 : Int) (w : World) (hr0 : Kd.C k230 w A0 l0.length l0) (hc0 : l0.length ≤ c0) (h : addr_Of.f k l0 = some (r1, r2, r3)) (hGU : GU w := by exact gUT) :
    Calls Tryz.prog 267 #[.slice A0 l0.length c0] w fun e w' => e = .returned (.tuple #[.agg #[.string r1, .string r2], .int .i64 r3]) ∧ Below w.heap.size w w' := by
  have hu54 := Tryz.underlying54
  have HR0 := Aside0.mk hr0
  have HC0 := Aside0.mk hc0
  clear hr0 hc0
  have HB := Aside0.mk (Below.refl w.heap.size w)
  have H : ((addr_joined.f k l0 false).bind fun bt1123 => (if bt1123.2.2 = true then ((addr_is.f bt1123.2.1 (⟨#[64]⟩ : ByteArray)).bind fun t1128 => (addr_Of.j0 k bt1123.2.1 bt1123.1 (!t1128))) else (addr_Of.j0 k bt1123.2.1 bt1123.1 true))) = some (r1, r2, r3) := h
  clear h
  replace H := Option.bind_eq_some_iff.mp H
  obtain ⟨⟨t1123, t1124, t1127⟩, A20, H⟩ := H
  replace H : (if t1127 = true then ((addr_is.f t1124 (⟨#[64]⟩ : ByteArray)).bind fun t1128 => (addr_Of.j0 k t1124 t1123 (!t1128))) else (addr_Of.j0 k t1124 t1123 true)) = some (r1, r2, r3) := H
  have A2 := Aside0.mk A20
  clear A20
  have HC3 := Aside0.mk H
  clear H
  go_enter Tryz.func267, Tryz.ntmps267
  go_upto_region 2 with (first | ((with_reducible refine gate_dst (N := 2) rfl ?_); (try (refine gate_guard (by rfl) ?_; dsimp only)); refine boxE 2 #[.string (⟨#[]⟩ : ByteArray), .string (⟨#[]⟩ : ByteArray)] 54 ?_; intro gb1122 hg w4 hbox hb; have n0_ := Aside0.mk (below_step bw hb); have n1_ := Aside0.mk (hbox); have n2_ := Aside0.mk ((bz hg : w.heap.size ≤ gb1122)); have n3_ := Aside0.mk ((bz hg : w.heap.size ≤ gb1122)); clear HB; have HB := n0_; have BK1122 := n1_; have GW1122 := n2_; have GE1122 := n3_; clear n0_ n1_ n2_ n3_; clear hb hbox hg) | ((with_reducible refine gate_callee (f := 274) rfl ?_); refine goesM (some 11) Tryz.func274 #[.slice A0 l0.length c0, .bool false] ?_; (with_reducible refine (addr_joined.calls k (fun k_ => k_ < w.heap.size) _ _ l0 false t1123 t1124 t1127 _ ?side1 A2.out).mono ?_); (case side1 => exact Kd.V_mk HC0.out (Kd.F_below (Kd.C_F k230_heap HR0.out) bw)); rintro e w5 ⟨v1125, rfl, ho0, hb⟩; refine ⟨_, rfl, ?_⟩; have n0_ := Aside0.mk (Kd.V_lower (Kd.V_mono (ok' := fun k_ => k_ ≠ gb1122) ho0 (fun k_ hk_ => Or.elim hk_ (fun hs_ => fun e_ => Nat.not_le.2 hs_ (by rw [e_]; exact GW1122.out)) (fun hn_ => (Kd.freshB (g := gb1122) (o := .cells #[.string (⟨#[]⟩ : ByteArray), .string (⟨#[]⟩ : ByteArray)] 54 (0, 0)) bk k_ hn_)))) (below_size bw)); have n1_ := Aside0.mk (bb BK1122 hb); have n2_ := Aside0.mk (below_step bw hb); clear BK1122; clear HB; have HO1126 := n0_; have BK1122 := n1_; have HB := n2_; clear n0_ n1_ n2_; (try clear hb); (try clear hb2); (try clear hk); (try clear hi); (try clear ho0)))
  (try simp only [Act.put, List.setIfInBounds_toArray, List.set_cons_zero, List.set_cons_succ])
  go_cut [21] (fun v21 wc => ∃ (kq : Nat) (x21_2 : Bool), v21 = .bool x21_2 ∧ Aside0 (addr_Of.j0 kq t1124 t1123 x21_2 = some (r1, r2, r3)) ∧ Aside0 (kq ≤ k) ∧ Aside0 (Kd.V k230 230 wc w.heap.size (fun k_ => k_ ≠ gb1122) v1125 t1124) ∧ Aside0 (wc.heap[gb1122]? = some (.cells #[.string (⟨#[]⟩ : ByteArray), .string (⟨#[]⟩ : ByteArray)] 54 (0, 0))) ∧ Aside0 (Below w.heap.size w wc))
  case first =>
    have H := HC3.out
    clear HC3
    by_cases c6 : t1127 = true
    · subst c6
      have H1 : ((addr_is.f t1124 (⟨#[64]⟩ : ByteArray)).bind fun t1128 => (addr_Of.j0 k t1124 t1123 (!t1128))) = some (r1, r2, r3) := by rw [if_pos rfl] at H; exact H
      clear H
      have H := H1
      clear H1
      replace H := Option.bind_eq_some_iff.mp H
      obtain ⟨t1128, A70, H⟩ := H
      replace H : (addr_Of.j0 k t1124 t1123 (!t1128)) = some (r1, r2, r3) := H
      have A7 := Aside0.mk A70
      clear A70
      have H' := Aside0.mk H
      clear H
      obtain ⟨Ao8, co8, eo8⟩ := Kd.V_slice HO1126.out
      subst eo8
      go_wp2_with (first | (go_at_call 275; (with_reducible refine (addr_is.calls _ _ t1124 (⟨#[64]⟩ : ByteArray) t1128 _ ?side1 ?side2 A7.out).mono ?_); (case side1 => repeat (first | exact (Kd.V_reads' HO1126.out).2.2 | (with_reducible refine Kd.C_alloc ?_ _) | (with_reducible refine Kd.C_drewN ?_ _) | (with_reducible refine Kd.C_drew ?_))); (case side2 => exact (Kd.V_reads' HO1126.out).2.1); rintro e w' ⟨rfl, ⟨nd, rfl⟩⟩))
      go_meet
      case rel => exact ⟨_, (!t1128), eqv, H', ⟨by first | omega | exact Nat.le_refl _⟩, ⟨by (with_reducible repeat (first | apply Kd.V_alloc | apply Kd.V_drewN | apply Kd.V_drew)); exact HO1126.out⟩, ⟨bk⟩, ⟨bw⟩⟩
    · replace c6 := Bool.eq_false_iff.mpr c6
      subst c6
      have H1 : (addr_Of.j0 k t1124 t1123 true) = some (r1, r2, r3) := by rw [if_neg (show ¬ (false = true) by decide)] at H; exact H
      clear H
      have H := H1
      clear H1
      have H' := Aside0.mk H
      clear H
      go_wp2
      go_meet
      case rel => exact ⟨_, (true), eqv, H', ⟨by first | omega | exact Nat.le_refl _⟩, ⟨by (with_reducible repeat (first | apply Kd.V_alloc | apply Kd.V_drewN | apply Kd.V_drew)); exact HO1126.out⟩, ⟨bk⟩, ⟨bw⟩⟩
  case rest =>
    clear HC3
    try clear c2
    try clear p2
    try clear c6
    obtain ⟨kq, x21_2, rfl, HA, HJ2, HO_0, BK1122, HB⟩ := hcut
    cases kq with
    | zero => exact absurd HA.out (by simp [addr_Of.j0])
    | succ kj2 =>
      have H := HA.out
      clear HA
      simp only [addr_Of.j0] at H
      by_cases c9 : x21_2 = true
      · subst c9
        have H1 : (some ((⟨#[]⟩ : ByteArray), (⟨#[]⟩ : ByteArray), 130)) = some (r1, r2, r3) := by rw [if_pos rfl] at H; exact H
        clear H
        have H := H1
        clear H1
        simp only [Option.some.injEq, Prod.mk.injEq] at H
        obtain ⟨rfl, rfl, rfl⟩ := H
        have hcz10_0 : wc.cell? ⟨gb1122, 0, none⟩ = some (.string (⟨#[]⟩ : ByteArray)) := (blk_cell BK1122.out 0).trans rfl
        have hcz10_1 : wc.cell? ⟨gb1122, 1, none⟩ = some (.string (⟨#[]⟩ : ByteArray)) := (blk_cell BK1122.out 1).trans rfl
        have hfz10_0 := blk_frozen BK1122.out 0
        have hfz10_1 := blk_frozen BK1122.out 1
        go_wp2
        refine bodyPost_ret (results_ct rfl _ _ gb1122 54 #[.string (⟨#[]⟩ : ByteArray), .string (⟨#[]⟩ : ByteArray)] (0, 0) _ rfl (by (with_reducible repeat (first | refine blk_drewN ?_ _ | refine blk_drew ?_ | refine blk_alloc ?_ _)); refine blk_put (cs := #[.string (⟨#[]⟩ : ByteArray), .string (⟨#[]⟩ : ByteArray)]) ?_ 1 _ rfl; (with_reducible repeat (first | refine blk_drewN ?_ _ | refine blk_drew ?_ | refine blk_alloc ?_ _)); refine blk_put (cs := #[.string (⟨#[]⟩ : ByteArray), .string (⟨#[]⟩ : ByteArray)]) ?_ 0 _ rfl; (with_reducible repeat (first | refine blk_drewN ?_ _ | refine blk_drew ?_ | refine blk_alloc ?_ _)); exact BK1122.out) Tryz.underlying54 rfl (by kernel_rfl)) rfl ?_
        exact ⟨eqe, bw⟩
      · replace c9 := Bool.eq_false_iff.mpr c9
        subst c9
        have H1 : (if 1 ≤ (t1124.length : Int) then ((addr_joined.f kj2 (t1124.drop 1) true).bind fun bt1134 => (if bt1134.2.2 = true then (addr_Of.j1 kj2 t1123 bt1134.1 (decide ((bt1134.2.1.length : Int) > 0))) else (addr_Of.j1 kj2 t1123 bt1134.1 true))) else (none)) = some (r1, r2, r3) := by rw [if_neg (show ¬ (false = true) by decide)] at H; exact H
        clear H
        have H := H1
        clear H1
        by_cases c11 : 1 ≤ (t1124.length : Int)
        · rw [if_pos c11] at H
          have c11b0 := eq_true c11
          have c11b1 : decide (1 ≤ (t1124.length : Int)) = true := decide_eq_true c11
          clear c11
          obtain ⟨y1129, hy1129⟩ : ∃ y_ : List (S230), y_ = (t1124.drop 1) := ⟨_, rfl⟩
          replace H : ((addr_joined.f kj2 y1129 true).bind fun bt1134 => (if bt1134.2.2 = true then (addr_Of.j1 kj2 t1123 bt1134.1 (decide ((bt1134.2.1.length : Int) > 0))) else (addr_Of.j1 kj2 t1123 bt1134.1 true))) = some (r1, r2, r3) := by first | (rw [hy1129]; with_reducible exact H) | (have H2_ := (Option.bind_some _ _).symm.trans H; rw [hy1129]; with_reducible exact H2_) | (have H2_ := (Option.bind_some _ _).symm.trans H; with_reducible exact H2_) | with_reducible exact H | (rw [hy1129]; exact H) | exact H
          have Ny1129 := Aside0.mk hy1129
          clear hy1129
          replace H := Option.bind_eq_some_iff.mp H
          obtain ⟨⟨t1134, t1135, t1138⟩, A120, H⟩ := H
          replace H : (if t1138 = true then (addr_Of.j1 kj2 t1123 t1134 (decide ((t1135.length : Int) > 0))) else (addr_Of.j1 kj2 t1123 t1134 true)) = some (r1, r2, r3) := H
          have A12 := Aside0.mk A120
          clear A120
          have HC13 := Aside0.mk H
          clear H
          obtain ⟨Ao15, co15, eo15⟩ := Kd.V_slice HO_0.out
          subst eo15
          have q14 : (1 : Int) ≤ ((t1124.length : Int) : Int) := of_decide_eq_true asm
          obtain ⟨i014, hi014, _, hsz14, _⟩ := info_parts info230
          have hroom14 : t1124.length ≤ co15 := (Kd.V_reads' HO_0.out).2.1
          have hC14 : Kd.F k230 _ _ Ao15 t1124.length t1124 := (Kd.V_at (base := w.heap.size) HO_0.out).2.2
          have hcut14 := cut_from (P := Tryz.prog) 203 230 .i64 Tryz.underlying203 hi014 2 hsz14 Ao15 t1124.length co15 1 (by omega) q14
          have hr14 := Kd.F_cut (m := (1 : Int).toNat) (c := co15) hC14 (by omega) hroom14
          obtain ⟨A14, hA14⟩ : ∃ A1, A1 = (if co15 = (1 : Int).toNat then Ao15 else (Ao15 : Option Addr).map (·.add ((1 : Int).toNat * 2))) := ⟨_, rfl⟩
          obtain ⟨c14, hc14⟩ : ∃ c1, c1 = co15 - (1 : Int).toNat := ⟨_, rfl⟩
          have hy14 : y1129.length = t1124.length - (1 : Int).toNat := (by rw [Ny1129.out, List.length_drop] <;> omega)
          rw [show (t1124).drop (1 : Int).toNat = y1129 from Ny1129.out.symm] at hr14
          replace hr14 : Kd.F k230 _ _ A14 y1129.length y1129 := (by rw [hA14]; exact hr14)
          rw [← hy14, ← hA14, ← hc14] at hcut14
          have HO1133 := Aside0.mk (show Kd.V k230 230 _ w.heap.size _ (.slice A14 y1129.length c14) y1129 from Kd.V_mk (by rw [hy14, hc14]; exact Nat.sub_le_sub_right hroom14 _) hr14)
          have HC1133 := Aside0.mk (show y1129.length ≤ c14 from by rw [hy14, hc14]; exact Nat.sub_le_sub_right hroom14 _)
          clear hr14 hC14 hroom14 hi014 hsz14 hc14
          have KY14 := Aside0.mk hy14
          have KA14 := Aside0.mk hA14
          clear hy14 hA14
          replace q14 := eq_true q14
          go_upto_region 5 with (first | ((with_reducible refine gate_callee (f := 274) rfl ?_); refine goesM (some 26) Tryz.func274 #[.slice A14 y1129.length c14, .bool true] ?_; (with_reducible refine (addr_joined.calls kj2 (fun k_ => k_ ≠ gb1122) _ _ y1129 true t1134 t1135 t1138 _ ?side1 A12.out).mono ?_); (case side1 => exact HO1133.out); rintro e w16 ⟨v1136, rfl, ho0, hb⟩; refine ⟨_, rfl, ?_⟩; have n0_ := Aside0.mk (Kd.V_below (by (with_reducible repeat (first | apply Kd.V_alloc | apply Kd.V_drewN | apply Kd.V_drew)); exact HO_0.out) hb); have n1_ := Aside0.mk (Kd.V_below (by (with_reducible repeat (first | apply Kd.V_alloc | apply Kd.V_drewN | apply Kd.V_drew)); exact HO1133.out) hb); have n2_ := Aside0.mk (Kd.V_lower (Kd.V_mono (ok' := fun k_ => k_ ≠ gb1122) ho0 (fun k_ hk_ => Or.elim hk_ (fun hs_ => hs_) (fun hn_ => (Kd.freshB (g := gb1122) (o := .cells #[.string (⟨#[]⟩ : ByteArray), .string (⟨#[]⟩ : ByteArray)] 54 (0, 0)) bk k_ hn_)))) (below_size bw)); have n3_ := Aside0.mk (bb BK1122 hb); have n4_ := Aside0.mk (below_step bw hb); clear HO_0; clear HO1133; clear BK1122; clear HB; have HO_0 := n0_; have HO1133 := n1_; have HO1137 := n2_; have BK1122 := n3_; have HB := n4_; clear n0_ n1_ n2_ n3_ n4_; (try clear hb); (try clear hb2); (try clear hk); (try clear hi); (try clear ho0)))
          (try simp only [Act.put, List.setIfInBounds_toArray, List.set_cons_zero, List.set_cons_succ])
          go_cut [36] (fun v36 wc => ∃ (kq : Nat) (x36_12 : Bool), v36 = .bool x36_12 ∧ Aside0 (addr_Of.j1 kq t1123 t1134 x36_12 = some (r1, r2, r3)) ∧ Aside0 (kq ≤ kj2) ∧ Aside0 (wc.heap[gb1122]? = some (.cells #[.string (⟨#[]⟩ : ByteArray), .string (⟨#[]⟩ : ByteArray)] 54 (0, 0))) ∧ Aside0 (Below w.heap.size w wc))
          case first =>
            have H := HC13.out
            clear HC13
            by_cases c17 : t1138 = true
            · subst c17
              have H1 : (addr_Of.j1 kj2 t1123 t1134 (decide ((t1135.length : Int) > 0))) = some (r1, r2, r3) := by rw [if_pos rfl] at H; exact H
              clear H
              have H := H1
              clear H1
              have H' := Aside0.mk H
              clear H
              obtain ⟨Ao18, co18, eo18⟩ := Kd.V_slice HO1137.out
              subst eo18
              go_wp2
              go_meet
              case rel => exact ⟨_, (decide ((t1135.length : Int) > 0)), eqv, H', ⟨by have := HJ2.out; first | omega | exact Nat.le_refl _⟩, ⟨bk⟩, ⟨bw⟩⟩
            · replace c17 := Bool.eq_false_iff.mpr c17
              subst c17
              have H1 : (addr_Of.j1 kj2 t1123 t1134 true) = some (r1, r2, r3) := by rw [if_neg (show ¬ (false = true) by decide)] at H; exact H
              clear H
              have H := H1
              clear H1
              have H' := Aside0.mk H
              clear H
              go_wp2
              go_meet
              case rel => exact ⟨_, (true), eqv, H', ⟨by have := HJ2.out; first | omega | exact Nat.le_refl _⟩, ⟨bk⟩, ⟨bw⟩⟩
          case rest =>
            clear HC13
            try clear c1
            try clear q1
            try clear c2
            try clear p2
            try clear c6
            try clear c9
            try clear c11
            try clear c11b0
            try clear c11b1
            try clear c14
            try clear q14
            try clear c17
            try clear hcz10_0
            try clear hcz10_1
            try clear hfz10_0
            try clear hfz10_1
            try clear p2
            try clear q14
            obtain ⟨kq, x36_12, rfl, HA, HJ12, BK1122, HB⟩ := hcut
            cases kq with
            | zero => exact absurd HA.out (by simp [addr_Of.j1])
            | succ kj12 =>
              have H := HA.out
              clear HA
              simp only [addr_Of.j1] at H
              by_cases c19 : x36_12 = true
              · subst c19
                have H1 : (some ((⟨#[]⟩ : ByteArray), (⟨#[]⟩ : ByteArray), 130)) = some (r1, r2, r3) := by rw [if_pos rfl] at H; exact H
                clear H
                have H := H1
                clear H1
                simp only [Option.some.injEq, Prod.mk.injEq] at H
                obtain ⟨rfl, rfl, rfl⟩ := H
                have hcz20_0 : wc.cell? ⟨gb1122, 0, none⟩ = some (.string (⟨#[]⟩ : ByteArray)) := (blk_cell BK1122.out 0).trans rfl
                have hcz20_1 : wc.cell? ⟨gb1122, 1, none⟩ = some (.string (⟨#[]⟩ : ByteArray)) := (blk_cell BK1122.out 1).trans rfl
                have hfz20_0 := blk_frozen BK1122.out 0
                have hfz20_1 := blk_frozen BK1122.out 1
                go_wp2
                refine bodyPost_ret (results_ct rfl _ _ gb1122 54 #[.string (⟨#[]⟩ : ByteArray), .string (⟨#[]⟩ : ByteArray)] (0, 0) _ rfl (by (with_reducible repeat (first | refine blk_drewN ?_ _ | refine blk_drew ?_ | refine blk_alloc ?_ _)); refine blk_put (cs := #[.string (⟨#[]⟩ : ByteArray), .string (⟨#[]⟩ : ByteArray)]) ?_ 1 _ rfl; (with_reducible repeat (first | refine blk_drewN ?_ _ | refine blk_drew ?_ | refine blk_alloc ?_ _)); refine blk_put (cs := #[.string (⟨#[]⟩ : ByteArray), .string (⟨#[]⟩ : ByteArray)]) ?_ 0 _ rfl; (with_reducible repeat (first | refine blk_drewN ?_ _ | refine blk_drew ?_ | refine blk_alloc ?_ _)); exact BK1122.out) Tryz.underlying54 rfl (by kernel_rfl)) rfl ?_
                exact ⟨eqe, bw⟩
              · replace c19 := Bool.eq_false_iff.mpr c19
                subst c19
                have H1 : ((glyph_Fold.f t1134).bind fun t1139 => ((addr_why.f kj12 t1123 t1139).bind fun t1141 => (if t1141 = 0 then (some (t1123, t1139, 0)) else (some ((⟨#[]⟩ : ByteArray), (⟨#[]⟩ : ByteArray), t1141))))) = some (r1, r2, r3) := by rw [if_neg (show ¬ (false = true) by decide)] at H; exact H
                clear H
                have H := H1
                clear H1
                replace H := Option.bind_eq_some_iff.mp H
                obtain ⟨t1139, A210, H⟩ := H
                replace H : ((addr_why.f kj12 t1123 t1139).bind fun t1141 => (if t1141 = 0 then (some (t1123, t1139, 0)) else (some ((⟨#[]⟩ : ByteArray), (⟨#[]⟩ : ByteArray), t1141)))) = some (r1, r2, r3) := H
                have A21 := Aside0.mk A210
                clear A210
                replace H := Option.bind_eq_some_iff.mp H
                obtain ⟨t1141, A220, H⟩ := H
                replace H : (if t1141 = 0 then (some (t1123, t1139, 0)) else (some ((⟨#[]⟩ : ByteArray), (⟨#[]⟩ : ByteArray), t1141))) = some (r1, r2, r3) := H
                have A22 := Aside0.mk A220
                clear A220
                by_cases c23 : t1141 = 0
                · rw [if_pos c23] at H
                  have c23b0 : (t1141 == 0) = true := beq_iff_eq.mpr c23
                  have c23b1 : (t1141 != 0) = false := bne_eq_false_iff_eq.mpr c23
                  clear c23
                  simp only [Option.some.injEq, Prod.mk.injEq] at H
                  obtain ⟨rfl, rfl, rfl⟩ := H
                  go_wp2_with (first | ((with_reducible refine gate_callee (f := 59) rfl ?_); refine goesM (some 40) Tryz.func59 #[.string t1134] ?_; (with_reducible refine (glyph_Fold.calls t1134 t1139 _ A21.out).mono ?_); rintro e w24 ⟨rfl, hb⟩; refine ⟨_, rfl, ?_⟩; have n0_ := Aside0.mk (bb BK1122 hb); have n1_ := Aside0.mk (below_step bw hb); clear BK1122; clear HB; have BK1122 := n0_; have HB := n1_; clear n0_ n1_; (try clear hb); (try clear hb2); (try clear hk); (try clear hi)) | ((with_reducible refine gate_dst (N := 7) rfl ?_); (try (refine gate_guard (by rfl) ?_; dsimp only)); refine boxE 7 #[.string (⟨#[]⟩ : ByteArray), .string (⟨#[]⟩ : ByteArray)] 54 ?_; intro gb1140 hg w25 hbox hb; have n0_ := Aside0.mk (bb BK1122 hb); have n1_ := Aside0.mk (below_step bw hb); have n2_ := Aside0.mk (hbox); have n3_ := Aside0.mk ((bz hg : w.heap.size ≤ gb1140)); have n4_ := Aside0.mk ((bz hg : w.heap.size ≤ gb1140)); have n5_ := Aside0.mk ((by rw [hg]; exact Nat.ne_of_lt (bl BK1122) : gb1122 ≠ gb1140)); have n6_ := Aside0.mk ((by rw [hg]; exact Nat.ne_of_gt (bl BK1122) : gb1140 ≠ gb1122)); clear BK1122; clear HB; have BK1122 := n0_; have HB := n1_; have BK1140 := n2_; have GW1140 := n3_; have GE1140 := n4_; have NB1122_1140 := n5_; have NB1140_1122 := n6_; clear n0_ n1_ n2_ n3_ n4_ n5_ n6_; clear hb hbox hg; have hnb26 := NB1140_1122.out; have hnc26 := NB1122_1140.out; have hcz27_0 : w25.cell? ⟨gb1140, 0, none⟩ = some (.string (⟨#[]⟩ : ByteArray)) := (blk_cell BK1140.out 0).trans rfl; have hcz27_1 : w25.cell? ⟨gb1140, 1, none⟩ = some (.string (⟨#[]⟩ : ByteArray)) := (blk_cell BK1140.out 1).trans rfl; have hfz27_0 := blk_frozen BK1140.out 0; have hfz27_1 := blk_frozen BK1140.out 1) | ((with_reducible refine gate_callee (f := 276) rfl ?_); refine goesM (some 43) Tryz.func276 #[.agg #[.string t1123, .string t1139]] ?_; (with_reducible refine (addr_why.calls kj12 t1123 t1139 t1141 _ A22.out).mono ?_); rintro e w28 ⟨rfl, hb⟩; refine ⟨_, rfl, ?_⟩; have n0_ := Aside0.mk (blk_below (g := gb1122) (o := .cells #[.string (⟨#[]⟩ : ByteArray), .string (⟨#[]⟩ : ByteArray)] 54 (0, 0)) (by (with_reducible repeat (first | refine blk_drewN ?_ _ | refine blk_drew ?_ | refine blk_alloc ?_ _)); refine blk_far ?_ NB1122_1140.out _; (with_reducible repeat (first | refine blk_drewN ?_ _ | refine blk_drew ?_ | refine blk_alloc ?_ _)); refine blk_far ?_ NB1122_1140.out _; (with_reducible repeat (first | refine blk_drewN ?_ _ | refine blk_drew ?_ | refine blk_alloc ?_ _)); exact BK1122.out) hb); have n1_ := Aside0.mk (blk_below (g := gb1140) (o := .cells #[.string t1123, .string t1139] 54 (0, 0)) (by (with_reducible repeat (first | refine blk_drewN ?_ _ | refine blk_drew ?_ | refine blk_alloc ?_ _)); refine blk_put (cs := #[.string t1123, .string (⟨#[]⟩ : ByteArray)]) ?_ 1 _ rfl; (with_reducible repeat (first | refine blk_drewN ?_ _ | refine blk_drew ?_ | refine blk_alloc ?_ _)); refine blk_put (cs := #[.string (⟨#[]⟩ : ByteArray), .string (⟨#[]⟩ : ByteArray)]) ?_ 0 _ rfl; (with_reducible repeat (first | refine blk_drewN ?_ _ | refine blk_drew ?_ | refine blk_alloc ?_ _)); exact BK1140.out) hb); have n2_ := Aside0.mk (below_step bw hb); clear BK1122; clear BK1140; clear HB; have BK1122 := n0_; have BK1140 := n1_; have HB := n2_; clear n0_ n1_ n2_; (try clear hb); (try clear hb2); (try clear hk); (try clear hi); have hcz29_0 : w28.cell? ⟨gb1140, 0, none⟩ = some (.string t1123) := (blk_cell BK1140.out 0).trans rfl; have hcz29_1 : w28.cell? ⟨gb1140, 1, none⟩ = some (.string t1139) := (blk_cell BK1140.out 1).trans rfl; have hfz29_0 := blk_frozen BK1140.out 0; have hfz29_1 := blk_frozen BK1140.out 1; have hcz30_0 : w28.cell? ⟨gb1122, 0, none⟩ = some (.string (⟨#[]⟩ : ByteArray)) := (blk_cell BK1122.out 0).trans rfl; have hcz30_1 : w28.cell? ⟨gb1122, 1, none⟩ = some (.string (⟨#[]⟩ : ByteArray)) := (blk_cell BK1122.out 1).trans rfl; have hfz30_0 := blk_frozen BK1122.out 0; have hfz30_1 := blk_frozen BK1122.out 1))
                  refine bodyPost_ret (results_ct rfl _ _ gb1122 54 #[.string t1123, .string t1139] (0, 0) _ rfl (by (with_reducible repeat (first | refine blk_drewN ?_ _ | refine blk_drew ?_ | refine blk_alloc ?_ _)); refine blk_put (cs := #[.string t1123, .string (⟨#[]⟩ : ByteArray)]) ?_ 1 _ rfl; (with_reducible repeat (first | refine blk_drewN ?_ _ | refine blk_drew ?_ | refine blk_alloc ?_ _)); refine blk_put (cs := #[.string (⟨#[]⟩ : ByteArray), .string (⟨#[]⟩ : ByteArray)]) ?_ 0 _ rfl; (with_reducible repeat (first | refine blk_drewN ?_ _ | refine blk_drew ?_ | refine blk_alloc ?_ _)); exact BK1122.out) Tryz.underlying54 rfl (by kernel_rfl)) rfl ?_
                  exact ⟨eqe, bw⟩
                · rw [if_neg c23] at H
                  have c23b0 : (t1141 == 0) = false := beq_eq_false_iff_ne.mpr c23
                  have c23b1 : (t1141 != 0) = true := bne_iff_ne.mpr c23
                  simp only [Option.some.injEq, Prod.mk.injEq] at H
                  obtain ⟨rfl, rfl, rfl⟩ := H
                  go_wp2_with (first | ((with_reducible refine gate_callee (f := 59) rfl ?_); refine goesM (some 40) Tryz.func59 #[.string t1134] ?_; (with_reducible refine (glyph_Fold.calls t1134 t1139 _ A21.out).mono ?_); rintro e w31 ⟨rfl, hb⟩; refine ⟨_, rfl, ?_⟩; have n0_ := Aside0.mk (bb BK1122 hb); have n1_ := Aside0.mk (below_step bw hb); clear BK1122; clear HB; have BK1122 := n0_; have HB := n1_; clear n0_ n1_; (try clear hb); (try clear hb2); (try clear hk); (try clear hi)) | ((with_reducible refine gate_dst (N := 7) rfl ?_); (try (refine gate_guard (by rfl) ?_; dsimp only)); refine boxE 7 #[.string (⟨#[]⟩ : ByteArray), .string (⟨#[]⟩ : ByteArray)] 54 ?_; intro gb1140 hg w32 hbox hb; have n0_ := Aside0.mk (bb BK1122 hb); have n1_ := Aside0.mk (below_step bw hb); have n2_ := Aside0.mk (hbox); have n3_ := Aside0.mk ((bz hg : w.heap.size ≤ gb1140)); have n4_ := Aside0.mk ((bz hg : w.heap.size ≤ gb1140)); have n5_ := Aside0.mk ((by rw [hg]; exact Nat.ne_of_lt (bl BK1122) : gb1122 ≠ gb1140)); have n6_ := Aside0.mk ((by rw [hg]; exact Nat.ne_of_gt (bl BK1122) : gb1140 ≠ gb1122)); clear BK1122; clear HB; have BK1122 := n0_; have HB := n1_; have BK1140 := n2_; have GW1140 := n3_; have GE1140 := n4_; have NB1122_1140 := n5_; have NB1140_1122 := n6_; clear n0_ n1_ n2_ n3_ n4_ n5_ n6_; clear hb hbox hg; have hnb33 := NB1140_1122.out; have hnc33 := NB1122_1140.out; have hcz34_0 : w32.cell? ⟨gb1140, 0, none⟩ = some (.string (⟨#[]⟩ : ByteArray)) := (blk_cell BK1140.out 0).trans rfl; have hcz34_1 : w32.cell? ⟨gb1140, 1, none⟩ = some (.string (⟨#[]⟩ : ByteArray)) := (blk_cell BK1140.out 1).trans rfl; have hfz34_0 := blk_frozen BK1140.out 0; have hfz34_1 := blk_frozen BK1140.out 1) | ((with_reducible refine gate_callee (f := 276) rfl ?_); refine goesM (some 43) Tryz.func276 #[.agg #[.string t1123, .string t1139]] ?_; (with_reducible refine (addr_why.calls kj12 t1123 t1139 t1141 _ A22.out).mono ?_); rintro e w35 ⟨rfl, hb⟩; refine ⟨_, rfl, ?_⟩; have n0_ := Aside0.mk (blk_below (g := gb1122) (o := .cells #[.string (⟨#[]⟩ : ByteArray), .string (⟨#[]⟩ : ByteArray)] 54 (0, 0)) (by (with_reducible repeat (first | refine blk_drewN ?_ _ | refine blk_drew ?_ | refine blk_alloc ?_ _)); refine blk_far ?_ NB1122_1140.out _; (with_reducible repeat (first | refine blk_drewN ?_ _ | refine blk_drew ?_ | refine blk_alloc ?_ _)); refine blk_far ?_ NB1122_1140.out _; (with_reducible repeat (first | refine blk_drewN ?_ _ | refine blk_drew ?_ | refine blk_alloc ?_ _)); exact BK1122.out) hb); have n1_ := Aside0.mk (blk_below (g := gb1140) (o := .cells #[.string t1123, .string t1139] 54 (0, 0)) (by (with_reducible repeat (first | refine blk_drewN ?_ _ | refine blk_drew ?_ | refine blk_alloc ?_ _)); refine blk_put (cs := #[.string t1123, .string (⟨#[]⟩ : ByteArray)]) ?_ 1 _ rfl; (with_reducible repeat (first | refine blk_drewN ?_ _ | refine blk_drew ?_ | refine blk_alloc ?_ _)); refine blk_put (cs := #[.string (⟨#[]⟩ : ByteArray), .string (⟨#[]⟩ : ByteArray)]) ?_ 0 _ rfl; (with_reducible repeat (first | refine blk_drewN ?_ _ | refine blk_drew ?_ | refine blk_alloc ?_ _)); exact BK1140.out) hb); have n2_ := Aside0.mk (below_step bw hb); clear BK1122; clear BK1140; clear HB; have BK1122 := n0_; have BK1140 := n1_; have HB := n2_; clear n0_ n1_ n2_; (try clear hb); (try clear hb2); (try clear hk); (try clear hi); have hcz36_0 : w35.cell? ⟨gb1122, 0, none⟩ = some (.string (⟨#[]⟩ : ByteArray)) := (blk_cell BK1122.out 0).trans rfl; have hcz36_1 : w35.cell? ⟨gb1122, 1, none⟩ = some (.string (⟨#[]⟩ : ByteArray)) := (blk_cell BK1122.out 1).trans rfl; have hfz36_0 := blk_frozen BK1122.out 0; have hfz36_1 := blk_frozen BK1122.out 1))
                  refine bodyPost_ret (results_ct rfl _ _ gb1122 54 #[.string (⟨#[]⟩ : ByteArray), .string (⟨#[]⟩ : ByteArray)] (0, 0) _ rfl (by (with_reducible repeat (first | refine blk_drewN ?_ _ | refine blk_drew ?_ | refine blk_alloc ?_ _)); refine blk_put (cs := #[.string (⟨#[]⟩ : ByteArray), .string (⟨#[]⟩ : ByteArray)]) ?_ 1 _ rfl; (with_reducible repeat (first | refine blk_drewN ?_ _ | refine blk_drew ?_ | refine blk_alloc ?_ _)); refine blk_put (cs := #[.string (⟨#[]⟩ : ByteArray), .string (⟨#[]⟩ : ByteArray)]) ?_ 0 _ rfl; (with_reducible repeat (first | refine blk_drewN ?_ _ | refine blk_drew ?_ | refine blk_alloc ?_ _)); exact BK1122.out) Tryz.underlying54 rfl (by kernel_rfl)) rfl ?_
                  exact ⟨eqe, bw⟩
        · rw [if_neg c11] at H
          exact absurd H (by simp)
end Go.Proofs.YtjohcncekfcgpaaGreatDoor.P
end
section
namespace Go.Proofs.YtjohcncekfcgpaaGreatDoor.P
open Go.RowKit Go.Proofs.YtjohcncekfcgpaaGreatDoorW.PrintWords Go.Proofs.YtjohcncekfcgpaaGreatDoorW.PrintLast Go.Proofs.YtjohcncekfcgpaaGreatDoorW.PrintMore
attribute [local go_sem] max2_int min2_int max_two min_two max_three min_three max_four min_four
set_option linter.unusedVariables false
set_option linter.unusedSimpArgs false
def head_same.f (a0 : ByteArray) (a1 : ByteArray) : Option (Bool) := (glyph_Fold.f a0).bind fun t139 => ((glyph_Fold.f a1).bind fun t140 => (some (t139.toList == t140.toList)))
set_option maxHeartbeats 8000000 in
set_option maxRecDepth 100000 in
theorem head_same.calls (a0 : ByteArray) (a1 : ByteArray) (r : Bool) (w : World) (h : head_same.f a0 a1 = some r) :
    Calls Tryz.prog 133 #[.string a0, .string a1] w fun e w' => e = .returned (.bool r) ∧ Below w.heap.size w w' := by
  have HB := Aside0.mk (Below.refl w.heap.size w)
  have H : ((glyph_Fold.f a0).bind fun t139 => ((glyph_Fold.f a1).bind fun t140 => (some (t139.toList == t140.toList)))) = some r := h
  clear h
  replace H := Option.bind_eq_some_iff.mp H
  obtain ⟨t139, A30, H⟩ := H
  replace H : ((glyph_Fold.f a1).bind fun t140 => (some (t139.toList == t140.toList))) = some r := H
  have A3 := Aside0.mk A30
  clear A30
  replace H := Option.bind_eq_some_iff.mp H
  obtain ⟨t140, A40, H⟩ := H
  replace H : (some (t139.toList == t140.toList)) = some r := H
  have A4 := Aside0.mk A40
  clear A40
  obtain rfl := Option.some.inj H
  go_enter Tryz.func133, Tryz.ntmps133
  go_wp2_with (first | ((with_reducible refine gate_callee (f := 59) rfl ?_); refine goesM (some 6) Tryz.func59 #[.string a0] ?_; (with_reducible refine (glyph_Fold.calls a0 t139 _ A3.out).mono ?_); rintro e w5 ⟨rfl, hb⟩; refine ⟨_, rfl, ?_⟩; have n0_ := Aside0.mk (below_step bw hb); clear HB; have HB := n0_; clear n0_; (try clear hb); (try clear hb2); (try clear hk); (try clear hi)) | ((with_reducible refine gate_callee (f := 59) rfl ?_); refine goesM (some 8) Tryz.func59 #[.string a1] ?_; (with_reducible refine (glyph_Fold.calls a1 t140 _ A4.out).mono ?_); rintro e w6 ⟨rfl, hb⟩; refine ⟨_, rfl, ?_⟩; have n0_ := Aside0.mk (below_step bw hb); clear HB; have HB := n0_; clear n0_; (try clear hb); (try clear hb2); (try clear hk); (try clear hi)))
  go_ret
  exact ⟨eqe, bw⟩
end Go.Proofs.YtjohcncekfcgpaaGreatDoor.P
end
section
namespace Go.Proofs.YtjohcncekfcgpaaGreatDoor.P
open Go.RowKit Go.Proofs.YtjohcncekfcgpaaGreatDoorW.PrintWords Go.Proofs.YtjohcncekfcgpaaGreatDoorW.PrintLast Go.Proofs.YtjohcncekfcgpaaGreatDoorW.PrintMore
attribute [local go_sem] max2_int min2_int max_two min_two max_three min_three max_four min_four
set_option linter.unusedVariables false
set_option linter.unusedSimpArgs false
def head_All.l0 : Nat → ByteArray → List ByteArray → List (S47) → Int → Int → Option (List ByteArray)
  | 0, _, _, _, _, _ => none
  | k + 1, x1, x5, x8, x9, x10 => if x10 < x9 then (if 0 ≤ x10 then (if x10 < (x8.length : Int) then ((head_same.f ((rd_T47 x8 x10).f0) x1).bind fun t143 => (if t143 = true then (if x5.length < 8796093022208 then (head_All.l0 k x1 (x5 ++ [(rd_T47 x8 x10).f1]) x8 x9 (wrap64 (x10 + 1))) else (none)) else (head_All.l0 k x1 x5 x8 x9 (wrap64 (x10 + 1))))) else (none)) else (none)) else (some x5)
def head_All.f (k : Nat) (l0 : List (S47)) (a1 : ByteArray) : Option (List ByteArray) := head_All.l0 k a1 ([] : List ByteArray) l0 (l0.length : Int) 0
theorem head_All.mono_l : ∀ k, (∀ y0 y1 y2 y3 y4, LeO (head_All.l0 k y0 y1 y2 y3 y4) (head_All.l0 (k + 1) y0 y1 y2 y3 y4))
  | 0 => fun _ _ _ _ _ r h => by simp [head_All.l0] at h
  | k + 1 => by
    have ih0 := head_All.mono_l k
    · intro y0 y1 y2 y3 y4
      unfold head_All.l0
      repeat' first
      | (with_reducible exact ih0 _ _ _ _ _)
      | (with_reducible exact LeO.refl _)
      | (with_reducible exact LeO.none _)
      | (with_reducible refine LeO.ite ?_ ?_)
      | (with_reducible refine LeO.bind ?_ (fun _ => ?_))
      | exact ih0 _ _ _ _ _
      | exact LeO.none _
      | refine LeO.ite ?_ ?_
      | refine LeO.bind ?_ (fun _ => ?_)
theorem head_All.mono : ∀ a0 a1 k, LeO (head_All.f k a0 a1) (head_All.f (k + 1) a0 a1) := by
  intro a0 a1 k
  have ih0 := head_All.mono_l k
  unfold head_All.f
  repeat' first
      | (with_reducible exact ih0 _ _ _ _ _)
      | (with_reducible exact LeO.refl _)
      | (with_reducible exact LeO.none _)
      | (with_reducible refine LeO.ite ?_ ?_)
      | (with_reducible refine LeO.bind ?_ (fun _ => ?_))
      | exact ih0 _ _ _ _ _
      | exact LeO.none _
      | refine LeO.ite ?_ ?_
      | refine LeO.bind ?_ (fun _ => ?_)
set_option maxHeartbeats 8000000 in
set_option maxRecDepth 100000 in
theorem head_All.calls (k : Nat) (A0 : Option Addr) (c0 : Nat) (l0 : List (S47)) (a1 : ByteArray) (r : List ByteArray) (w : World) (hr0 : Kd.C k47 w A0 l0.length l0) (hc0 : l0.length ≤ c0) (h : head_All.f k l0 a1 = some r) :
    Calls Tryz.prog 79 #[.slice A0 l0.length c0, .string a1] w fun e w' => ∃ v0_ : Value, e = .returned (v0_) ∧ Kd.R Kd.string 9 w' w.heap.size (fun _ => True) v0_ r ∧ Below w.heap.size w w' := by
  have hu47 := Tryz.underlying47
  have HR0 := Aside0.mk hr0
  have HC0 := Aside0.mk hc0
  clear hr0 hc0
  have HB := Aside0.mk (Below.refl w.heap.size w)
  have H : (head_All.l0 k a1 ([] : List ByteArray) l0 (l0.length : Int) 0) = some r := h
  clear h
  have H' := Aside0.mk H
  clear H
  go_enter Tryz.func79, Tryz.ntmps79
  go_wp2
  go_loopg [5, 10] k (fun kq v5 v10 w' => ∃ (x5_1 : List ByteArray) (x10_1 : Int), v10 = .int .i64 x10_1 ∧ Aside0 (head_All.l0 kq a1 x5_1 l0 (l0.length : Int) x10_1 = some r) ∧ Aside0 (kq ≤ k) ∧ Aside0 (Kd.R Kd.string 9 w' w.heap.size (fun _ => True) v5 x5_1) ∧ Aside0 (Below w.heap.size w w'))
  case atStart => exact ⟨(([] : List ByteArray)), (0), eqv, H', ⟨Nat.le_refl _⟩, ⟨by first | exact Kd.R_nil _ _ _ _ _ | exact Kd.N_nil _ _ _ _ _ | exact Kd.V_nil _ _ _ _ _ | exact Kd.Q_nil _ _ _ _ _ | exact Kd.S_nil _ _ _ _ _⟩, ⟨bw⟩⟩
  case round =>
    clear H'
    try clear p2
    obtain ⟨x5_1, x10_1, rfl, HA, HK1, HO_5, HB⟩ := hrel
    cases gk with
    | zero => exact absurd HA.out (by simp [head_All.l0])
    | succ k1 =>
      have H := HA.out
      clear HA
      simp only [head_All.l0] at H
      by_cases c3 : x10_1 < (l0.length : Int)
      · rw [if_pos c3] at H
        have c3b0 : decide (x10_1 < (l0.length : Int)) = true := decide_eq_true c3
        clear c3
        by_cases c4 : 0 ≤ x10_1
        · rw [if_pos c4] at H
          have c4b0 : decide (0 ≤ x10_1) = true := decide_eq_true c4
          clear c4
          by_cases c5 : x10_1 < (l0.length : Int)
          · rw [if_pos c5] at H
            have c5b0 : decide (x10_1 < (l0.length : Int)) = true := decide_eq_true c5
            clear c5
            replace H := Option.bind_eq_some_iff.mp H
            obtain ⟨t143, A60, H⟩ := H
            replace H : (if t143 = true then (if x5_1.length < 8796093022208 then (head_All.l0 k1 a1 (x5_1 ++ [(rd_T47 l0 x10_1).f1]) l0 (l0.length : Int) (wrap64 (x10_1 + 1))) else (none)) else (head_All.l0 k1 a1 x5_1 l0 (l0.length : Int) (wrap64 (x10_1 + 1)))) = some r := H
            have A6 := Aside0.mk A60
            clear A60
            by_cases c7 : t143 = true
            · subst c7
              have H1 : (if x5_1.length < 8796093022208 then (head_All.l0 k1 a1 (x5_1 ++ [(rd_T47 l0 x10_1).f1]) l0 (l0.length : Int) (wrap64 (x10_1 + 1))) else (none)) = some r := by rw [if_pos rfl] at H; exact H
              clear H
              have H := H1
              clear H1
              by_cases c8 : x5_1.length < 8796093022208
              · rw [if_pos c8] at H
                have LMc8 := Aside0.mk c8
                clear c8
                obtain ⟨y144, hy144⟩ : ∃ y_ : List ByteArray, y_ = (x5_1 ++ [(rd_T47 l0 x10_1).f1]) := ⟨_, rfl⟩
                replace H : (head_All.l0 k1 a1 y144 l0 (l0.length : Int) (wrap64 (x10_1 + 1))) = some r := by first | (rw [hy144]; with_reducible exact H) | (have H2_ := (Option.bind_some _ _).symm.trans H; rw [hy144]; with_reducible exact H2_) | (have H2_ := (Option.bind_some _ _).symm.trans H; with_reducible exact H2_) | with_reducible exact H | (rw [hy144]; exact H) | exact H
                have Ny144 := Aside0.mk hy144
                clear hy144
                have H' := Aside0.mk H
                clear H
                have p141 : 0 ≤ (x10_1 : Int) := of_decide_eq_true asm
                have q141 : x10_1 < (l0.length : Int) := of_decide_eq_true asm
                obtain ⟨ad141, e141, hx141_0, hx141_1⟩ := at_T47 HR0.out x10_1 p141 q141
                cases e141
                replace hx141_0 := (HB.out.cell (World.block_lt_of_cell? w _ hx141_0)).trans hx141_0
                replace hx141_1 := (HB.out.cell (World.block_lt_of_cell? w _ hx141_1)).trans hx141_1
                replace p141 := eq_true p141
                replace q141 := eq_true q141
                go_wp2_with (first | ((with_reducible refine gate_dst (N := 7) rfl ?_); refine boxE 7 #[.string (⟨#[]⟩ : ByteArray), .string (⟨#[]⟩ : ByteArray)] 47 ?_; intro gb142 hg w9 hbox hb; have n0_ := Aside0.mk (Kd.R_below (kr HO_5) hb); have n1_ := Aside0.mk (below_step bw hb); have n2_ := Aside0.mk (hbox); have n3_ := Aside0.mk ((bz hg : w.heap.size ≤ gb142)); have n4_ := Aside0.mk ((bz hg : w.heap.size ≤ gb142)); clear HO_5; clear HB; have HO_5 := n0_; have HB := n1_; have BK142 := n2_; have GW142 := n3_; have GE142 := n4_; clear n0_ n1_ n2_ n3_ n4_; clear hb hbox hg; have hcz10_0 : w9.cell? ⟨gb142, 0, none⟩ = some (.string (⟨#[]⟩ : ByteArray)) := (blk_cell BK142.out 0).trans rfl; have hcz10_1 : w9.cell? ⟨gb142, 1, none⟩ = some (.string (⟨#[]⟩ : ByteArray)) := (blk_cell BK142.out 1).trans rfl; have hfz10_0 := blk_frozen BK142.out 0; have hfz10_1 := blk_frozen BK142.out 1) | ((with_reducible refine gate_callee (f := 133) rfl ?_); refine goesM (some 17) Tryz.func133 #[.string ((rd_T47 l0 x10_1).f0), .string a1] ?_; (with_reducible refine (head_same.calls ((rd_T47 l0 x10_1).f0) a1 true _ A6.out).mono ?_); rintro e w11 ⟨rfl, hb⟩; refine ⟨_, rfl, ?_⟩; have n0_ := Aside0.mk (Kd.R_below (by (with_reducible repeat (first | apply Kd.R_alloc | apply Kd.R_drewN | apply Kd.R_drew)); exact (Kd.R_mono (Kd.R_far (p := ⟨gb142, 1, none⟩) (Kd.R_far (p := ⟨gb142, 0, none⟩) (Kd.R_types HO_5.out BK142.out (by decide)) (fun _ hk => hk.2) (.string ((rd_T47 l0 x10_1).f0))) (fun _ hk => hk.2) (.string ((rd_T47 l0 x10_1).f1))) (fun _ h_ => h_.1))) hb); have n1_ := Aside0.mk (blk_below (g := gb142) (o := .cells #[.string ((rd_T47 l0 x10_1).f0), .string ((rd_T47 l0 x10_1).f1)] 47 (0, 0)) (by (with_reducible repeat (first | refine blk_drewN ?_ _ | refine blk_drew ?_ | refine blk_alloc ?_ _)); refine blk_put (cs := #[.string ((rd_T47 l0 x10_1).f0), .string (⟨#[]⟩ : ByteArray)]) ?_ 1 _ rfl; (with_reducible repeat (first | refine blk_drewN ?_ _ | refine blk_drew ?_ | refine blk_alloc ?_ _)); refine blk_put (cs := #[.string (⟨#[]⟩ : ByteArray), .string (⟨#[]⟩ : ByteArray)]) ?_ 0 _ rfl; (with_reducible repeat (first | refine blk_drewN ?_ _ | refine blk_drew ?_ | refine blk_alloc ?_ _)); exact BK142.out) hb); have n2_ := Aside0.mk (below_step bw hb); clear HO_5; clear BK142; clear HB; have HO_5 := n0_; have BK142 := n1_; have HB := n2_; clear n0_ n1_ n2_; (try clear hb); (try clear hb2); (try clear hk); (try clear hi); have hcz12_0 : w11.cell? ⟨gb142, 0, none⟩ = some (.string ((rd_T47 l0 x10_1).f0)) := (blk_cell BK142.out 0).trans rfl; have hcz12_1 : w11.cell? ⟨gb142, 1, none⟩ = some (.string ((rd_T47 l0 x10_1).f1)) := (blk_cell BK142.out 1).trans rfl; have hfz12_0 := blk_frozen BK142.out 0; have hfz12_1 := blk_frozen BK142.out 1) | ((with_reducible refine gate_builtin (b := .append) (xs := #[.tmp 18, .tmp 21]) rfl ?_); at_builtin; refine Kd.R_append Kd.string (w0 := w) w.heap.size rfl (.tmp 18) (.tmp 21) 39 9 (.string ⟨#[]⟩) 16 rfl Tryz.underlying39 info9 rfl (by decide) (by omega) u5 x5_1 ((rd_T47 l0 x10_1).f1) [.string ((rd_T47 l0 x10_1).f1)] (fun _ => True) (fun _ => False) rfl rfl ?aP (fun _ hk => hk.elim) ?aF ?aO ?aB ?aS ?aL ?_; (case aP => exact rfl); (case aB => exact bw); (case aF => exact (fun _ _ => trivial)); (case aO => exact (kr HO_5)); (case aS => exact (below_size bw)); (case aL => have := LMc8.out; omega); intro v145 w13 ho hb hg hat; rw [← Ny144.out] at ho; have n0_ := Aside0.mk (blk_grown (g := gb142) (o := .cells #[.string ((rd_T47 l0 x10_1).f0), .string ((rd_T47 l0 x10_1).f1)] 47 (0, 0)) bk hg (Kd.R_ne HO_5.out BK142.out (by decide))); have n1_ := Aside0.mk (hb); have n2_ := Aside0.mk (ho); clear BK142; clear HB; clear HO_5; have BK142 := n0_; have HB := n1_; have HO146 := n2_; clear n0_ n1_ n2_; clear ho hb hg hat))
                go_roundg k1
                case measure => have := HK1.out; omega
                case rel => exact ⟨(y144), (wrap64 (x10_1 + 1)), eqv, H', ⟨by have := HK1.out; omega⟩, ⟨kr HO146⟩, ⟨bw⟩⟩
              · rw [if_neg c8] at H
                exact absurd H (by simp)
            · replace c7 := Bool.eq_false_iff.mpr c7
              subst c7
              have H1 : (head_All.l0 k1 a1 x5_1 l0 (l0.length : Int) (wrap64 (x10_1 + 1))) = some r := by rw [if_neg (show ¬ (false = true) by decide)] at H; exact H
              clear H
              have H := H1
              clear H1
              have H' := Aside0.mk H
              clear H
              have p141 : 0 ≤ (x10_1 : Int) := of_decide_eq_true asm
              have q141 : x10_1 < (l0.length : Int) := of_decide_eq_true asm
              obtain ⟨ad141, e141, hx141_0, hx141_1⟩ := at_T47 HR0.out x10_1 p141 q141
              cases e141
              replace hx141_0 := (HB.out.cell (World.block_lt_of_cell? w _ hx141_0)).trans hx141_0
              replace hx141_1 := (HB.out.cell (World.block_lt_of_cell? w _ hx141_1)).trans hx141_1
              replace p141 := eq_true p141
              replace q141 := eq_true q141
              go_wp2_with (first | ((with_reducible refine gate_dst (N := 7) rfl ?_); refine boxE 7 #[.string (⟨#[]⟩ : ByteArray), .string (⟨#[]⟩ : ByteArray)] 47 ?_; intro gb142 hg w14 hbox hb; have n0_ := Aside0.mk (Kd.R_below (kr HO_5) hb); have n1_ := Aside0.mk (below_step bw hb); have n2_ := Aside0.mk (hbox); have n3_ := Aside0.mk ((bz hg : w.heap.size ≤ gb142)); have n4_ := Aside0.mk ((bz hg : w.heap.size ≤ gb142)); clear HO_5; clear HB; have HO_5 := n0_; have HB := n1_; have BK142 := n2_; have GW142 := n3_; have GE142 := n4_; clear n0_ n1_ n2_ n3_ n4_; clear hb hbox hg; have hcz15_0 : w14.cell? ⟨gb142, 0, none⟩ = some (.string (⟨#[]⟩ : ByteArray)) := (blk_cell BK142.out 0).trans rfl; have hcz15_1 : w14.cell? ⟨gb142, 1, none⟩ = some (.string (⟨#[]⟩ : ByteArray)) := (blk_cell BK142.out 1).trans rfl; have hfz15_0 := blk_frozen BK142.out 0; have hfz15_1 := blk_frozen BK142.out 1) | ((with_reducible refine gate_callee (f := 133) rfl ?_); refine goesM (some 17) Tryz.func133 #[.string ((rd_T47 l0 x10_1).f0), .string a1] ?_; (with_reducible refine (head_same.calls ((rd_T47 l0 x10_1).f0) a1 false _ A6.out).mono ?_); rintro e w16 ⟨rfl, hb⟩; refine ⟨_, rfl, ?_⟩; have n0_ := Aside0.mk (Kd.R_below (by (with_reducible repeat (first | apply Kd.R_alloc | apply Kd.R_drewN | apply Kd.R_drew)); exact (Kd.R_mono (Kd.R_far (p := ⟨gb142, 1, none⟩) (Kd.R_far (p := ⟨gb142, 0, none⟩) (Kd.R_types HO_5.out BK142.out (by decide)) (fun _ hk => hk.2) (.string ((rd_T47 l0 x10_1).f0))) (fun _ hk => hk.2) (.string ((rd_T47 l0 x10_1).f1))) (fun _ h_ => h_.1))) hb); have n1_ := Aside0.mk (blk_below (g := gb142) (o := .cells #[.string ((rd_T47 l0 x10_1).f0), .string ((rd_T47 l0 x10_1).f1)] 47 (0, 0)) (by (with_reducible repeat (first | refine blk_drewN ?_ _ | refine blk_drew ?_ | refine blk_alloc ?_ _)); refine blk_put (cs := #[.string ((rd_T47 l0 x10_1).f0), .string (⟨#[]⟩ : ByteArray)]) ?_ 1 _ rfl; (with_reducible repeat (first | refine blk_drewN ?_ _ | refine blk_drew ?_ | refine blk_alloc ?_ _)); refine blk_put (cs := #[.string (⟨#[]⟩ : ByteArray), .string (⟨#[]⟩ : ByteArray)]) ?_ 0 _ rfl; (with_reducible repeat (first | refine blk_drewN ?_ _ | refine blk_drew ?_ | refine blk_alloc ?_ _)); exact BK142.out) hb); have n2_ := Aside0.mk (below_step bw hb); clear HO_5; clear BK142; clear HB; have HO_5 := n0_; have BK142 := n1_; have HB := n2_; clear n0_ n1_ n2_; (try clear hb); (try clear hb2); (try clear hk); (try clear hi)))
              go_roundg k1
              case measure => have := HK1.out; omega
              case rel => exact ⟨(x5_1), (wrap64 (x10_1 + 1)), eqv, H', ⟨by have := HK1.out; omega⟩, ⟨kr HO_5⟩, ⟨bw⟩⟩
          · rw [if_neg c5] at H
            exact absurd H (by simp)
        · rw [if_neg c4] at H
          exact absurd H (by simp)
      · rw [if_neg c3] at H
        have c3b0 : decide (x10_1 < (l0.length : Int)) = false := decide_eq_false c3
        clear c3
        obtain rfl := Option.some.inj H
        go_wp2
        go_ret
        exact ⟨_, eqe, kr HO_5, bw⟩
end Go.Proofs.YtjohcncekfcgpaaGreatDoor.P
end
section
namespace Go.Proofs.YtjohcncekfcgpaaGreatDoor.P
open Go.RowKit Go.Proofs.YtjohcncekfcgpaaGreatDoorW.PrintWords Go.Proofs.YtjohcncekfcgpaaGreatDoorW.PrintLast Go.Proofs.YtjohcncekfcgpaaGreatDoorW.PrintMore
attribute [local go_sem] max2_int min2_int max_two min_two max_three min_three max_four min_four
set_option linter.unusedVariables false
set_option linter.unusedSimpArgs false
def msg_Message_Text.f (l0_0 : List (S47)) (a0_1 : ByteArray) : Option (ByteArray) := (head_Print.f l0_0).bind fun t131 => (if t131.size + 2 ≤ 9223372036854775807 then (if (t131 ++ (⟨#[13, 10]⟩ : ByteArray)).size + a0_1.size ≤ 9223372036854775807 then (some ((t131 ++ (⟨#[13, 10]⟩ : ByteArray)) ++ a0_1)) else (none)) else (none))
def msg_Message_Text.T1 : Bool × List (List Nat × List Nat) := (true, [([], []), ([0], [0]), ([1], [1]), ([2], [2]), ([], []), ([4], [4]), ([3, 5], [3, 5]), ([6, 2, 0, 1, 2, 3, 4, 5, 6], [6])])
def msg_Message_Text.B1 : List Nat := [0, 1, 3, 7, 0, 16, 63, 127]
theorem msg_Message_Text.tab1 : rtab .any (opsOf Tryz.f19 1) = msg_Message_Text.T1 := by kernel_rfl
theorem msg_Message_Text.bits1 : waitsOk msg_Message_Text.T1.2 msg_Message_Text.B1 = true := by kernel_rfl
set_option maxHeartbeats 8000000 in
set_option maxRecDepth 100000 in
theorem msg_Message_Text.calls (A0_0 : Option Addr) (c0_0 : Nat) (l0_0 : List (S47)) (a0_1 : ByteArray) (r : ByteArray) (w : World) (hr0_0 : Kd.C k47 w A0_0 l0_0.length l0_0) (hc0_0 : l0_0.length ≤ c0_0) (h : msg_Message_Text.f l0_0 a0_1 = some r) :
    Calls Tryz.prog 19 #[.agg #[.slice A0_0 l0_0.length c0_0, .string a0_1]] w fun e w' => e = .returned (.string r) ∧ Below w.heap.size w w' := by
  have hu25 := Tryz.underlying25
  have HR0_0 := Aside0.mk hr0_0
  have HC0_0 := Aside0.mk hc0_0
  clear hr0_0 hc0_0
  have HB := Aside0.mk (Below.refl w.heap.size w)
  have H : ((head_Print.f l0_0).bind fun t131 => (if t131.size + 2 ≤ 9223372036854775807 then (if (t131 ++ (⟨#[13, 10]⟩ : ByteArray)).size + a0_1.size ≤ 9223372036854775807 then (some ((t131 ++ (⟨#[13, 10]⟩ : ByteArray)) ++ a0_1)) else (none)) else (none))) = some r := h
  clear h
  replace H := Option.bind_eq_some_iff.mp H
  obtain ⟨t131, A20, H⟩ := H
  replace H : (if t131.size + 2 ≤ 9223372036854775807 then (if (t131 ++ (⟨#[13, 10]⟩ : ByteArray)).size + a0_1.size ≤ 9223372036854775807 then (some ((t131 ++ (⟨#[13, 10]⟩ : ByteArray)) ++ a0_1)) else (none)) else (none)) = some r := H
  have A2 := Aside0.mk A20
  clear A20
  by_cases c3 : t131.size + 2 ≤ 9223372036854775807
  · rw [if_pos c3] at H
    have c3b0 := eq_true c3
    have c3b1 : decide (t131.size + 2 ≤ 9223372036854775807) = true := decide_eq_true c3
    try have c3b2 : (9223372036854775807 < t131.size + 2) = False := eq_false (Nat.not_lt.2 c3)
    by_cases c4 : (t131 ++ (⟨#[13, 10]⟩ : ByteArray)).size + a0_1.size ≤ 9223372036854775807
    · rw [if_pos c4] at H
      have c4b0 := eq_true c4
      have c4b1 : decide ((t131 ++ (⟨#[13, 10]⟩ : ByteArray)).size + a0_1.size ≤ 9223372036854775807) = true := decide_eq_true c4
      try have c4b2 : (9223372036854775807 < (t131 ++ (⟨#[13, 10]⟩ : ByteArray)).size + a0_1.size) = False := eq_false (Nat.not_lt.2 c4)
      (try (have c4v0 : (9223372036854775807 < t131.size + 2 + a0_1.size) = False := eq_false (Nat.not_lt.2 (by have h_ := c4; (try simp only [ByteArray.size_append, ByteArray.size_extract] at h_); exact h_))))
      obtain rfl := Option.some.inj H
      go_enter Tryz.func19, Tryz.ntmps19
      try go_wp2_with (first | ((with_reducible refine gate_dst (N := 1) rfl ?_); refine boxE 1 #[.slice A0_0 l0_0.length c0_0, .string a0_1] 25 ?_; intro gb130 hg w5 hbox hb; have n0_ := Aside0.mk (below_step bw hb); have n1_ := Aside0.mk (hbox); have n2_ := Aside0.mk ((bz hg : w.heap.size ≤ gb130)); have n3_ := Aside0.mk ((bz hg : w.heap.size ≤ gb130)); clear HB; have HB := n0_; have BK130 := n1_; have GW130 := n2_; have GE130 := n3_; clear n0_ n1_ n2_ n3_; clear hb hbox hg))
      have n0_ := Aside0.mk (blk_drew BK130.out)
      have n1_ := Aside0.mk (below_drew1 HB.out)
      clear BK130
      clear HB
      have BK130 := n0_
      have HB := n1_
      clear n0_ n1_
      refine start_ (n := 8) (S := fun w' => w'.cell? ⟨gb130, 0, none⟩ = some (.slice A0_0 l0_0.length c0_0) ∧ w'.cell? ⟨gb130, 1, none⟩ = some (.string a0_1)) (ds := []) #[false, false, false, false, false, false, false, false] (by kernel_rfl) rfl rfl ⟨(blk_cell BK130.out 0).trans rfl, (blk_cell BK130.out 1).trans rfl⟩ (fun hHeld => ?_); refine with_tabW msg_Message_Text.tab1 msg_Message_Text.bits1 (fun HT_ HW_ => ?_)
      generalize w5.drew = w6 at BK130 HB hHeld ⊢
      refine pure_ (i := 0) (N := some 3) (v := ?_) (a' := ?_) #[true, false, false, false, false, false, false, false] rfl rfl (any_of HT_.out (by kernel_rfl)) (fun _ _ _ h => h) (Or.inl ⟨by rfl, ?_⟩) ?_ ?_
      rotate_left
      · intro w'
        go_simp
        with_reducible rfl
      rotate_left
      · simp only [Act.put, List.setIfInBounds_toArray, List.set_cons_zero, List.set_cons_succ, i64_w, i32_w]
        rfl
      refine pure_ (i := 4) (N := some 7) (v := ?_) (a' := ?_) #[true, false, false, false, true, false, false, false] rfl rfl (any_of HT_.out (by kernel_rfl)) (fun _ _ _ h => h) (Or.inl ⟨by rfl, ?_⟩) ?_ ?_
      rotate_left
      · intro w'
        go_simp
        with_reducible rfl
      rotate_left
      · simp only [Act.put, List.setIfInBounds_toArray, List.set_cons_zero, List.set_cons_succ, i64_w, i32_w]
        rfl
      refine take_ (i := 1) (N := some 4) (v := ?_) (a' := ?_) #[true, true, false, false, true, false, false, false] rfl rfl (take_ofW HT_.out HW_.out (by kernel_rfl)) (fun _ _ _ h => h) (Or.inl ⟨by rfl, ?_⟩) hHeld ?_ ?_
      rotate_left
      · rintro w' ⟨s0, s1⟩
        go_simp
        with_reducible rfl
      rotate_left
      · simp only [Act.put, List.setIfInBounds_toArray, List.set_cons_zero, List.set_cons_succ, i64_w, i32_w]
        rfl
      refine take_ (i := 5) (N := some 8) (v := ?_) (a' := ?_) #[true, true, false, false, true, true, false, false] rfl rfl (take_ofW HT_.out HW_.out (by kernel_rfl)) (fun _ _ _ h => h) (Or.inl ⟨by rfl, ?_⟩) hHeld ?_ ?_
      rotate_left
      · rintro w' ⟨s0, s1⟩
        go_simp
        with_reducible rfl
      rotate_left
      · simp only [Act.put, List.setIfInBounds_toArray, List.set_cons_zero, List.set_cons_succ, i64_w, i32_w]
        rfl
      refine one_ (i := 2) (N := some 5) #[true, true, true, false, true, true, false, false] rfl rfl (one_of HT_.out (by kernel_rfl)) (by decide) (fun K hK => ?_)
      refine goes_ Tryz.func63 (by kernel_rfl) rfl #[.slice A0_0 l0_0.length c0_0] (by rfl) rfl rfl (by (try simp only [List.map_toArray, List.map_cons, List.map_nil]); first | done | rfl | (simp only [List.length_drop, List.length_take]; rfl)) ?_
      with_reducible refine (head_Print.calls _ _ l0_0 t131 _ ?side1 ?side2 A2.out).mono ?_
      (case side1 => exact kc)
      (case side2 => exact HC0_0.out)
      rintro e w7 ⟨rfl, hb⟩
      refine ⟨_, rfl, ?_⟩
      have n0_ := Aside0.mk (bb BK130 hb)
      have n1_ := Aside0.mk (below_step bw hb)
      clear BK130
      clear HB
      have BK130 := n0_
      have HB := n1_
      clear n0_ n1_
      (try clear hb)
      (try clear hb2)
      (try clear hk)
      (try clear hi)
      refine hK.out _ _ ⟨(blk_cell BK130.out 0).trans rfl, (blk_cell BK130.out 1).trans rfl⟩ (fun hHeld => ?_)
      clear hK K
      refine norm_ (a' := ?_) ?_ ?_
      rotate_left
      · show Act.put _ (some 5) _ = _
        simp only [Act.put, List.setIfInBounds_toArray, List.set_cons_zero, List.set_cons_succ, i64_w, i32_w]
        rfl
      refine pure_ (i := 3) (N := some 6) (v := ?_) (a' := ?_) #[true, true, true, true, true, true, false, false] rfl rfl (any_of HT_.out (by kernel_rfl)) (fun _ _ _ h => h) (Or.inl ⟨by rfl, ?_⟩) ?_ ?_
      rotate_left
      · intro w'
        go_simp
        with_reducible rfl
      rotate_left
      · simp only [Act.put, List.setIfInBounds_toArray, List.set_cons_zero, List.set_cons_succ, i64_w, i32_w]
        rfl
      refine pure_ (i := 6) (N := some 9) (v := ?_) (a' := ?_) #[true, true, true, true, true, true, true, false] rfl rfl (any_of HT_.out (by kernel_rfl)) (fun _ _ _ h => h) (Or.inl ⟨by rfl, ?_⟩) ?_ ?_
      rotate_left
      · intro w'
        go_simp
        with_reducible rfl
      rotate_left
      · simp only [Act.put, List.setIfInBounds_toArray, List.set_cons_zero, List.set_cons_succ, i64_w, i32_w]
        rfl
      refine pure_ (i := 7) (N := some 2) (v := ?_) (a' := ?_) #[true, true, true, true, true, true, true, true] rfl rfl (any_of HT_.out (by kernel_rfl)) (fun _ _ _ h => h) (Or.inl ⟨by rfl, ?_⟩) ?_ ?_
      rotate_left
      · intro w'
        go_simp
        with_reducible rfl
      rotate_left
      · simp only [Act.put, List.setIfInBounds_toArray, List.set_cons_zero, List.set_cons_succ, i64_w, i32_w]
        rfl
      refine done_ (done_of HT_.out (by kernel_rfl)) ?_
      try go_wp2
      go_ret
      exact ⟨eqe, bw⟩
    · rw [if_neg c4] at H
      exact absurd H (by simp)
  · rw [if_neg c3] at H
    exact absurd H (by simp)
end Go.Proofs.YtjohcncekfcgpaaGreatDoor.P
end
