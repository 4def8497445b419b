/- A part of the proof of the card of MsgLines. -/
import Derived.WalkLawsBesides
import Derived.Test.YtjohcncekfcgpaaGreatDoorZMLs06
import Derived.Test.YtjohcncekfcgpaaGreatDoorZMLs08
import Derived.Test.YtjohcncekfcgpaaGreatDoorZMLs04
set_option linter.unusedVariables false
set_option linter.unusedSimpArgs false
section
set_option linter.unusedVariables false
namespace Go.Proofs.YtjohcncekfcgpaaGreatDoor.P
open Go.RowKit Go.Shelf Go.Proofs.YtjohcncekfcgpaaGreatDoorW.PrintWords Go.Proofs.YtjohcncekfcgpaaGreatDoorW.PrintLast
attribute [local go_sem high] eqA230
abbrev Tok := S230
abbrev Bx := S56
abbrev kTok : Kd Tok := k230
abbrev kBx : Kd Bx := k56
def RS (w0 W : World) (r : Nat) (l : List Tok) (bs : List Bx) : Prop :=
  ∃ vl vb, W.heap[r]? = some (.cells #[vl, vb] 208 (0, 0)) ∧ Kd.V kTok 230 W 0 (fun k => k ≠ r ∧ some k ≠ vb.ownBlock) vl l ∧ Kd.R kBx 56 W w0.heap.size (fun k => k ≠ r) vb bs ∧ Below w0.heap.size w0 W ∧ w0.heap.size ≤ r
theorem RS.lt {w0 W : World} {r : Nat} {l : List Tok} {bs : List Bx} (h : RS w0 W r l bs) : r < W.heap.size := by
  obtain ⟨vl, vb, hb, _⟩ := h
  exact (Array.getElem?_eq_some_iff.1 hb).1
theorem RS.below {w0 W W' : World} {r : Nat} {l : List Tok} {bs : List Bx} (h : RS w0 W r l bs) (hb : Below W.heap.size W W') : RS w0 W' r l bs := by
  have hlt := h.lt
  obtain ⟨vl, vb, h1, h2, h3, h4, h5⟩ := h
  exact ⟨vl, vb, (hb.block r hlt).trans h1, Kd.V_below h2 hb, Kd.R_below h3 hb, below_then h4 h4.size hb, h5⟩
theorem RS.drewN {w0 W : World} {r : Nat} {l : List Tok} {bs : List Bx} (h : RS w0 W r l bs) (n : Nat) : RS w0 (W.drewN n) r l bs := h.below (pw_below_drewN (Below.refl _ _) n)
theorem RS.gu {w0 W : World} {r : Nat} {l : List Tok} {bs : List Bx} (h : RS w0 W r l bs) (hG : GU w0) : GU W := by
  obtain ⟨vl, vb, h1, h2, h3, h4, h5⟩ := h
  exact hG.below h4
theorem RS.open_ {w0 W : World} {r : Nat} {l : List Tok} {bs : List Bx} (h : RS w0 W r l bs) : ∃ A c vb, W.heap[r]? = some (.cells #[.slice A l.length c, vb] 208 (0, 0)) ∧ W.cell? ⟨r, 0, none⟩ = some (.slice A l.length c) ∧ W.cell? ⟨r, 1, none⟩ = some vb ∧ W.frozen? ⟨r, 0, none⟩ = false ∧ W.frozen? ⟨r, 1, none⟩ = false ∧ l.length ≤ c ∧ Kd.C kTok W A l.length l ∧ Kd.V kTok 230 W 0 (fun k => k ≠ r ∧ some k ≠ vb.ownBlock) (.slice A l.length c) l ∧ Kd.R kBx 56 W w0.heap.size (fun k => k ≠ r) vb bs ∧ Below w0.heap.size w0 W ∧ w0.heap.size ≤ r := by
  obtain ⟨vl, vb, h1, h2, h3, h4, h5⟩ := h
  obtain ⟨A, c, rfl⟩ := Kd.V_slice h2
  exact ⟨A, c, vb, h1, by simp [World.cell?, h1], by simp [World.cell?, h1], by simp [World.frozen?, h1], by simp [World.frozen?, h1], (Kd.V_reads' h2).2.1, (Kd.V_reads' h2).2.2, h2, h3, h4, h5⟩
theorem RS.cutTo {w0 W : World} {r : Nat} {l l' : List Tok} {bs : List Bx} {vl' : Value} (h : RS w0 W r l bs) (hv : ∀ vb : Value, Kd.V kTok 230 W 0 (fun k => k ≠ r ∧ some k ≠ vb.ownBlock) vl' l' ∨ ¬ (∃ vl, W.heap[r]? = some (.cells #[vl, vb] 208 (0, 0)))) : RS w0 (W.setCell ⟨r, 0, none⟩ vl') r l' bs := by
  obtain ⟨vl, vb, h1, h2, h3, h4, h5⟩ := h
  refine ⟨vl', vb, by simp [World.setCell, Array.getElem?_modify, h1], ?_, Kd.R_far (p := ⟨r, 0, none⟩) h3 (fun k hk => hk) vl', h4.setCell (p := ⟨r, 0, none⟩) h5 _, h5⟩
  rcases hv vb with h6 | h6
  · exact Kd.V_far (p := ⟨r, 0, none⟩) h6 (fun k hk => hk.1) vl'
  · exact absurd ⟨vl, h1⟩ h6
theorem tokCut {W : World} {ok : Nat → Prop} {A : Option Addr} {c : Nat} {l : List Tok} (h : Kd.V kTok 230 W 0 ok (.slice A l.length c) l) (k : Nat) (hk : k ≤ l.length) :
    ∃ A' c', (∀ V : World, (Instr.slice 203 (.slice A l.length c) (some (.int .i64 (k : Int))) none none).run Tryz.prog V = .ok (.slice A' (l.drop k).length c') V) ∧ Kd.V kTok 230 W 0 ok (.slice A' (l.drop k).length c') (l.drop k) := by
  obtain ⟨i0, hi0, _, hsz, _⟩ := info_parts info230
  obtain ⟨_, hlc, hF⟩ := Kd.V_at h
  have hrun := cut_from (P := Tryz.prog) 203 230 .i64 Tryz.underlying203 hi0 2 hsz A l.length c (k : Int) (by omega) (by omega)
  have hF2 := Kd.F_cut (m := k) (c := c) hF hk hlc
  simp only [Int.toNat_natCast] at hrun
  have hl : (l.drop k).length = l.length - k := List.length_drop
  refine ⟨_, c - k, fun V => ?_, Kd.V_mk (by rw [hl]; omega) hF2⟩
  rw [hrun V, hl]
  rfl
def atP (l : List Tok) (sign : ByteArray) : Bool := match l with
  | [] => false
  | t :: _ => t.f0 == 3 && (t.f1.toList == sign.toList)
def followsP (l : List Tok) (n : Nat) (sign : ByteArray) : Bool := atP (l.drop n) sign
set_option maxHeartbeats 2000000 in
set_option maxRecDepth 100000 in
theorem rAt (w0 W : World) (r : Nat) (l : List Tok) (bs : List Bx) (sign : ByteArray) (h : RS w0 W r l bs) :
    Calls Tryz.prog 230 #[.pointer (some ⟨r, 0, none⟩), .string sign] W fun e w' => e = .returned (.bool (atP l sign)) ∧ w' = W := by
  obtain ⟨A, c, vb, h1, c0, c1, f0, f1, hlc, hC, hV, hR, hB, hr⟩ := h.open_
  have hu := Tryz.underlying230
  clear h h1 hV hR hB c1 f1
  cases l with
  | nil =>
    go_enter Tryz.func230, Tryz.ntmps230
    go_wp2
    go_ret
    exact ⟨rfl, rfl⟩
  | cons t l =>
    obtain ⟨ad, rfl, hx0, hx1⟩ := at_T230 hC 0 (by omega) (by simp)
    have e0 : rd_T230 (t :: l) 0 = t := rfl
    rw [e0] at hx0 hx1
    rw [show ((0 : Int)).toNat = 0 from rfl, show 0 * 2 = 0 from rfl, Addr.add_zero'] at hx0 hx1
    have hp : decide (0 < ((t :: l).length : Int)) = true := by simp
    have hp2 : (0 < (t :: l).length) = True := by simp
    obtain ⟨L, hL⟩ : ∃ L, L = (t :: l).length := ⟨_, rfl⟩
    rw [← hL] at hp hp2 c0 hlc
    have HLL := Lib.hid hL; clear hL hC e0
    go_enter Tryz.func230, Tryz.ntmps230
    go_wp2
    go_ret
    exact ⟨rfl, rfl⟩
end Go.Proofs.YtjohcncekfcgpaaGreatDoor.P
end
section
set_option linter.unusedVariables false
namespace Go.Proofs.YtjohcncekfcgpaaGreatDoor.P
open Go.RowKit Go.Shelf Go.Proofs.YtjohcncekfcgpaaGreatDoorW.PrintWords Go.Proofs.YtjohcncekfcgpaaGreatDoorW.PrintLast
attribute [local go_sem high] eqA230
set_option maxHeartbeats 2000000 in
set_option maxRecDepth 100000 in
theorem rTake (w0 W : World) (r : Nat) (l : List Tok) (bs : List Bx) (sign : ByteArray) (h : RS w0 W r l bs) :
    Calls Tryz.prog 190 #[.pointer (some ⟨r, 0, none⟩), .string sign] W fun e w' => e = .returned (.bool (atP l sign)) ∧ RS w0 w' r (if atP l sign = true then l.drop 1 else l) bs := by
  obtain ⟨A, c, vb, h1, c0, c1, f0, f1, hlc, hC, hV, hR, hB, hr⟩ := h.open_
  by_cases hat : atP l sign = true
  · have hl : 1 ≤ l.length := by cases l with
      | nil => simp [atP] at hat
      | cons t l => simp
    obtain ⟨A', c', hrun0, hV'⟩ := tokCut hV 1 hl
    have hrun : ∀ V : World, (Instr.slice 203 (.slice A l.length c) (some (.int .i64 1)) none none).run Tryz.prog V = .ok (.slice A' (l.drop 1).length c') V := hrun0
    clear hrun0
    have HC := Lib.hid (rAt w0 W r l bs sign h)
    have hRS : RS w0 (W.setCell ⟨r, 0, none⟩ (.slice A' (l.drop 1).length c')) r (l.drop 1) bs := by
      refine ⟨.slice A' (l.drop 1).length c', vb, blk_put (cs := #[.slice A l.length c, vb]) h1 0 _ rfl, Kd.V_far (p := ⟨r, 0, none⟩) hV' (fun k hk => hk.1) _, Kd.R_far (p := ⟨r, 0, none⟩) hR (fun k hk => hk) _, hB.setCell (p := ⟨r, 0, none⟩) hr _, hr⟩
    have HR := Lib.hid hRS
    have HA := Lib.hid hat
    clear hat hC hV hR hB hr h1 hlc h hV' hRS
    rw [HA.out] at HC
    rw [HA.out, if_pos rfl]
    go_enter Tryz.func190, Tryz.ntmps190
    go_wp2_with (go_at_call 230; refine HC.out.mono ?_; rintro e w' ⟨rfl, rfl⟩)
    go_ret
    exact ⟨rfl, by have := HR.out; rwa [List.length_drop] at this⟩
  · have hat' : atP l sign = false := by simpa using hat
    have HC := Lib.hid (rAt w0 W r l bs sign h)
    have HA := Lib.hid hat'
    have HR := Lib.hid h
    clear hat hC hV hR hB hr h1 hlc h hat'
    rw [HA.out] at HC
    rw [HA.out, if_neg (by decide)]
    go_enter Tryz.func190, Tryz.ntmps190
    go_wp2_with (go_at_call 230; refine HC.out.mono ?_; rintro e w' ⟨rfl, rfl⟩)
    go_ret
    exact ⟨rfl, HR.out⟩
set_option maxHeartbeats 2000000 in
set_option maxRecDepth 100000 in
theorem rFollows (w0 W : World) (r : Nat) (l : List Tok) (bs : List Bx) (n : Nat) (sign : ByteArray) (h : RS w0 W r l bs) :
    Calls Tryz.prog 227 #[.pointer (some ⟨r, 0, none⟩), .int .i64 (n : Int), .string sign] W fun e w' => e = .returned (.bool (followsP l n sign)) ∧ w' = W := by
  obtain ⟨A, c, vb, h1, c0, c1, f0, f1, hlc, hC, hV, hR, hB, hr⟩ := h.open_
  have hu := Tryz.underlying230
  clear h h1 hV hR hB c1 f1
  by_cases hn : n < l.length
  · obtain ⟨ad, rfl, hx0, hx1⟩ := at_T230 hC (n : Int) (by omega) (by omega)
    rw [Int.toNat_natCast] at hx0 hx1
    have e0 : followsP l n sign = ((rd_T230 l (n : Int)).f0 == 3 && ((rd_T230 l (n : Int)).f1.toList == sign.toList)) := by
      unfold followsP atP
      rw [List.drop_eq_getElem_cons hn]
      simp [rd_T230, rdOf, hn]
    have hp : decide ((n : Int) < (l.length : Int)) = true := by simp; omega
    have hp2 : (n < l.length) = True := eq_true hn
    have hp3 : ((n : Int) < (l.length : Int)) = True := eq_true (by omega)
    have hp4 : (0 ≤ (n : Int)) = True := eq_true (by omega)
    have E0 := Lib.hid e0
    obtain ⟨L, hL⟩ : ∃ L, L = l.length := ⟨_, rfl⟩
    rw [← hL] at hp hp2 hp3 c0 hlc
    have HLL := Lib.hid hL; clear hL hC e0
    go_enter Tryz.func227, Tryz.ntmps227
    go_wp2
    go_ret
    exact ⟨by rw [E0.out]; rfl, rfl⟩
  · have e0 : followsP l n sign = false := by unfold followsP; rw [List.drop_of_length_le (by omega)]; rfl
    have hp : decide ((n : Int) < (l.length : Int)) = false := by simp; omega
    rw [e0]
    go_enter Tryz.func227, Tryz.ntmps227
    go_wp2
    go_ret
    exact ⟨rfl, rfl⟩
def wl (l : List Tok) : List ByteArray := (l.takeWhile fun t => t.f0 != 3).map (·.f1)
theorem wl_stop (l : List Tok) (i : Nat) (h : ∀ j (hj : j < l.length), j < i → l[j].f0 ≠ 3) (hi : i ≤ l.length) (hs : ∀ h : i < l.length, l[i].f0 = 3) : wl l = (l.take i).map (·.f1) := by
  unfold wl
  congr 1
  induction l generalizing i with
  | nil => simp
  | cons t l ih =>
    cases i with
    | zero => have := hs (by simp); simp at this; simp [this]
    | succ i =>
      have h0 := h 0 (by simp) (by omega)
      simp only [List.getElem_cons_zero] at h0
      have : (t.f0 != 3) = true := by simpa using h0
      rw [List.takeWhile_cons, if_pos this, List.take_succ_cons]
      congr 1
      refine ih i (fun j hj hji => ?_) (by simpa using hi) (fun hh => ?_)
      · have := h (j + 1) (by simpa using hj) (by omega); simpa using this
      · have := hs (by simpa using hh); simpa using this
set_option maxHeartbeats 4000000 in
set_option maxRecDepth 100000 in
theorem rWords (w0 W : World) (r : Nat) (l : List Tok) (bs : List Bx) (nm : ByteArray) (h : RS w0 W r l bs) (hL : l.length < 8796093022208) (hJ : strings_Join.f (wl l) ⟨#[32]⟩ = some nm) :
    Calls Tryz.prog 226 #[.pointer (some ⟨r, 0, none⟩)] W fun e w' => e = .returned (.tuple #[.int .i64 ((wl l).length : Nat), .string nm]) ∧ Below W.heap.size W w' := by
  obtain ⟨A, c, vb, h1, c0, c1, f0, f1, hlc, hC, hV, hR, hB0, hr⟩ := h.open_
  have hu := Tryz.underlying230
  have HC := Lib.hid hC
  have HJ := Lib.hid hJ
  have HL := Aside0.mk hL
  clear h h1 hV hR hB0 c1 f1 hlc hJ hL hC
  have HB := Aside0.mk (Below.refl W.heap.size W)
  go_enter Tryz.func226, Tryz.ntmps226
  go_wp2
  go_loopg [4, 12] l.length (fun kq v4 v12 w' => ∃ (i : Nat), v12 = .int .i64 (i : Int) ∧ Aside0 (i + kq = l.length) ∧ Aside0 (∀ j (hj : j < l.length), j < i → l[j].f0 ≠ 3) ∧ Aside0 (Kd.R Kd.string 9 w' W.heap.size (fun _ => True) v4 ((l.take i).map (·.f1))) ∧ Aside0 (Below W.heap.size W w'))
  case atStart => exact ⟨0, rfl, ⟨by omega⟩, ⟨fun j _ hj => by omega⟩, ⟨Kd.R_nil _ _ _ _ _⟩, HB⟩
  case round =>
    clear HB
    try clear p2
    obtain ⟨i, rfl, HK, HA, HO, HB⟩ := hrel
    by_cases hi : i < l.length
    · have c3b0 : decide ((i : Int) < (l.length : Int)) = true := decide_eq_true (by omega)
      obtain ⟨ad, rfl, hx0, hx1⟩ := at_T230 HC.out (i : Int) (by omega) (by omega)
      rw [Int.toNat_natCast] at hx0 hx1
      replace hx0 := (HB.out.cell (World.block_lt_of_cell? W _ hx0)).trans hx0
      replace hx1 := (HB.out.cell (World.block_lt_of_cell? W _ hx1)).trans hx1
      obtain ⟨t, ht⟩ : ∃ t, t = rd_T230 l (i : Int) := ⟨_, rfl⟩
      have ht' : l[i] = t := by rw [ht]; simp [rd_T230, rdOf, hi]
      rw [← ht] at hx0 hx1
      have HT := Lib.hid ht'
      have p1 : (0 ≤ (i : Int)) = True := eq_true (by omega)
      have q1 : ((i : Int) < (l.length : Int)) = True := eq_true (by omega)
      have q2 : (i < l.length) = True := eq_true hi
      have HI := Aside0.mk hi
      by_cases h3 : t.f0 = 3
      · have hs := wl_stop l i HA.out (by omega) (fun _ => by rw [HT.out]; exact h3)
        rw [h3] at hx0
        rw [← hs] at HO
        obtain ⟨Ao, co, rfl⟩ := Kd.R_slice HO.out
        clear h3 ht ht' hs HA HK HT
        go_wp2_with (first | ((with_reducible refine gate_dst (N := 6) rfl ?_); refine box_event ?hg (N := 6) ?hd (cs := #[.int .i64 0, .string (⟨#[]⟩ : ByteArray)]) (t := 230) ?hr ?_; (case hd => rfl); (case hg => rfl); (case hr => first | (go_simp; done) | (go_simp; rfl)); intro gb hg w9 hbox hb; have n0_ := Aside0.mk (Kd.R_below HO.out hb); have n1_ := Aside0.mk (below_step HB.out hb); have n2_ := Aside0.mk hbox; have n3_ := Aside0.mk (show W.heap.size ≤ gb by rw [hg]; exact below_size HB.out); clear HO HB; have HO := n0_; have HB := n1_; have BK := n2_; have GE := n3_; clear n0_ n1_ n2_ n3_; clear hb hbox hg; have hcz0 : w9.cell? ⟨gb, 0, none⟩ = some (.int .i64 0) := (blk_cell BK.out 0).trans rfl; have hcz1 : w9.cell? ⟨gb, 1, none⟩ = some (.string (⟨#[]⟩ : ByteArray)) := (blk_cell BK.out 1).trans rfl; have hfz0 := blk_frozen BK.out 0; have hfz1 := blk_frozen BK.out 1) | (go_at_call 202; refine (strings_Join.calls _ _ (wl l) ⟨#[32]⟩ nm _ (Kd.R_reads' (Kd.R_mono (Kd.R_far (p := ⟨gb, 1, none⟩) (Kd.R_far (p := ⟨gb, 0, none⟩) (Kd.R_types HO.out BK.out (by decide)) (fun _ hk => hk.2) (.int .i64 3)) (fun _ hk => hk.2) (.string t.f1)) (fun _ h_ => h_.1))).2.2 (Kd.R_reads' (Kd.R_mono (Kd.R_far (p := ⟨gb, 1, none⟩) (Kd.R_far (p := ⟨gb, 0, none⟩) (Kd.R_types HO.out BK.out (by decide)) (fun _ hk => hk.2) (.int .i64 3)) (fun _ hk => hk.2) (.string t.f1)) (fun _ h_ => h_.1))).2.1 HJ.out).mono ?_; rintro e w' ⟨rfl, hb⟩; have n0_ := Aside0.mk (below_step (below_set (below_set HB.out GE.out) GE.out) hb); clear hb))
        go_ret2
        exact ⟨rfl, n0_.out⟩
      · have h3b : decide (t.f0 = 3) = false := by simpa using h3
        have h3c : (t.f0 = 3) = False := eq_false h3
        have h3d : (t.f0 == 3) = false := by simpa using h3
        have hn : (l.take i).map (·.f1) ++ [t.f1] = (l.take (i + 1)).map (·.f1) := by
          rw [List.take_succ_eq_append_getElem hi, List.map_append, ← ht']
          rfl
        have hA' : ∀ j (hj : j < l.length), j < i + 1 → l[j].f0 ≠ 3 := by
          intro j hj hji
          rcases Nat.lt_or_ge j i with h | h
          · exact HA.out j hj h
          · obtain rfl : j = i := by omega
            rw [ht']; exact h3
        have HN := Lib.hid hn
        have HA' := Aside0.mk hA'
        clear h3 ht ht' hn hA' HA HT
        go_wp2_with (first | ((with_reducible refine gate_dst (N := 6) rfl ?_); refine box_event ?hg (N := 6) ?hd (cs := #[.int .i64 0, .string (⟨#[]⟩ : ByteArray)]) (t := 230) ?hr ?_; (case hd => rfl); (case hg => rfl); (case hr => first | (go_simp; done) | (go_simp; rfl)); intro gb hg w9 hbox hb; have n0_ := Aside0.mk (Kd.R_below HO.out hb); have n1_ := Aside0.mk (below_step HB.out hb); have n2_ := Aside0.mk hbox; have n3_ := Aside0.mk (show W.heap.size ≤ gb by rw [hg]; exact below_size HB.out); clear HO HB; have HO := n0_; have HB := n1_; have BK := n2_; have GE := n3_; clear n0_ n1_ n2_ n3_; clear hb hbox hg; have hcz0 : w9.cell? ⟨gb, 0, none⟩ = some (.int .i64 0) := (blk_cell BK.out 0).trans rfl; have hcz1 : w9.cell? ⟨gb, 1, none⟩ = some (.string (⟨#[]⟩ : ByteArray)) := (blk_cell BK.out 1).trans rfl; have hfz0 := blk_frozen BK.out 0; have hfz1 := blk_frozen BK.out 1) | ((with_reducible refine gate_builtin (b := .append) (xs := #[.tmp 19, .tmp 22]) rfl ?_); at_builtin; refine Kd.R_append Kd.string (w0 := W) W.heap.size rfl (.tmp 19) (.tmp 22) 39 9 (.string ⟨#[]⟩) 16 rfl Tryz.underlying39 info9 rfl (by decide) (by omega) u4 ((l.take i).map (·.f1)) (t.f1) [.string (t.f1)] (fun _ => True) (fun _ => False) rfl (by simp only [World.size_setCell]; rfl) ?aP (fun _ hk => hk.elim) ?aF ?aO ?aB ?aS ?aL ?_; (case aP => exact rfl); (case aB => exact (below_set (below_set HB.out GE.out) GE.out)); (case aF => exact (fun _ _ => trivial)); (case aO => exact (Kd.R_mono (Kd.R_far (p := ⟨gb, 1, none⟩) (Kd.R_far (p := ⟨gb, 0, none⟩) (Kd.R_types HO.out BK.out (by decide)) (fun _ hk => hk.2) (.int .i64 t.f0)) (fun _ hk => hk.2) (.string t.f1)) (fun _ h_ => h_.1))); (case aS => exact below_size (below_set (below_set HB.out GE.out) GE.out)); (case aL => have := HL.out; have := HI.out; simp only [List.length_map, List.length_take]; omega); intro v145 w13 ho hb hg hat; rw [HN.out] at ho; have n0_ := Aside0.mk hb; have n1_ := Aside0.mk ho; clear HB HO; have HB := n0_; have HO := n1_; clear n0_ n1_ ho hb hg hat))
        go_roundg (gk - 1)
        case measure => have := HK.out; have := HI.out; omega
        case rel => exact ⟨i + 1, by simp only [wrapI _ (show i < 9223372036854775807 by have := HL.out; have := HI.out; omega)], ⟨by have := HK.out; have := HI.out; omega⟩, HA', HO, HB⟩
    · have hs := wl_stop l i HA.out (by have := HK.out; omega) (fun h => absurd h hi)
      have c3b0 : decide ((i : Int) < (l.length : Int)) = false := decide_eq_false (by omega)
      have c3n : (i < l.length) = False := eq_false hi
      rw [← hs] at HO
      obtain ⟨Ao, co, rfl⟩ := Kd.R_slice HO.out
      clear hs HA HK hi
      go_wp2_with (first | (go_at_call 202; refine (strings_Join.calls _ _ (wl l) ⟨#[32]⟩ nm _ (Kd.R_reads' HO.out).2.2 (Kd.R_reads' HO.out).2.1 HJ.out).mono ?_; rintro e w' ⟨rfl, hb⟩; have n0_ := Aside0.mk (below_step HB.out hb); clear hb))
      go_ret2
      exact ⟨rfl, n0_.out⟩
end Go.Proofs.YtjohcncekfcgpaaGreatDoor.P
end
section
set_option linter.unusedVariables false
namespace Go.Proofs.YtjohcncekfcgpaaGreatDoor.P
open Go.RowKit Go.Shelf Go.Proofs.YtjohcncekfcgpaaGreatDoorW.PrintWords Go.Proofs.YtjohcncekfcgpaaGreatDoorW.PrintLast
attribute [local go_sem high] eqA230
def stopN : List Tok → Option Nat
  | [] => some 0
  | t :: l => (mbx_stops.f t.f0 t.f1).bind fun b => if b = true then some 0 else (stopN l).map (· + 1)
theorem stopN_le : ∀ {l : List Tok} {n : Nat}, stopN l = some n → n ≤ l.length
  | [], n, h => by simp [stopN] at h; omega
  | t :: l, n, h => by
    simp only [stopN] at h
    obtain ⟨b, hb, h⟩ := Option.bind_eq_some_iff.mp h
    split at h
    · simp at h; omega
    · obtain ⟨m, hm, rfl⟩ := Option.map_eq_some_iff.mp h
      have := stopN_le hm
      simp; omega
def addressO (k : Nat) (l : List Tok) (bs : List Bx) (name : ByteArray) : Option (Int × List Tok × List Bx) :=
  (stopN l).bind fun n => (addr_Of.f k (l.take n)).bind fun a =>
    if a.2.2 = 0 then (if bs.length = 100 then some (8, l.drop n, bs) else if bs.length < 100 then some (0, l.drop n, bs ++ [⟨name, ⟨a.1, a.2.1⟩⟩]) else none) else some (a.2.2, l, bs)
theorem tokTake {W : World} {A : Option Addr} {c : Nat} {l : List Tok} (h : Kd.C kTok W A l.length l) (hlc : l.length ≤ c) (k : Nat) (hk : k ≤ l.length) :
    (∀ V : World, (Instr.slice 203 (.slice A l.length c) none (some (.int .i64 (k : Int))) none).run Tryz.prog V = .ok (.slice A (l.take k).length c) V) ∧ Kd.C kTok W A (l.take k).length (l.take k) ∧ (l.take k).length ≤ c := by
  obtain ⟨i0, hi0, _, hsz, _⟩ := info_parts info230
  have hrun := cut_to (P := Tryz.prog) 203 230 .i64 Tryz.underlying203 hi0 A l.length c (k : Int) (by omega) (by omega) hlc
  have hl : (l.take k).length = k := by rw [List.length_take]; omega
  refine ⟨fun V => ?_, Kd.C_take h hk, by omega⟩
  rw [hrun V, hl]
  rfl
structure RSV (w0 W : World) (r : Nat) (A : Option Addr) (c : Nat) (vb : Value) (l : List Tok) (bs : List Bx) : Prop where
  b : W.heap[r]? = some (.cells #[.slice A l.length c, vb] 208 (0, 0))
  v : Kd.V kTok 230 W 0 (fun k => k ≠ r ∧ some k ≠ vb.ownBlock) (.slice A l.length c) l
  rr : Kd.R kBx 56 W w0.heap.size (fun k => k ≠ r) vb bs
  h : Below w0.heap.size w0 W
  le : w0.heap.size ≤ r
theorem RS.toV {w0 W : World} {r : Nat} {l : List Tok} {bs : List Bx} (h : RS w0 W r l bs) : ∃ A c vb, RSV w0 W r A c vb l bs := by
  obtain ⟨vl, vb, h1, h2, h3, h4, h5⟩ := h
  obtain ⟨A, c, rfl⟩ := Kd.V_slice h2
  exact ⟨A, c, vb, h1, h2, h3, h4, h5⟩
section
variable {w0 W W' : World} {r : Nat} {A : Option Addr} {c : Nat} {vb : Value} {l : List Tok} {bs : List Bx}
theorem RSV.toS (h : RSV w0 W r A c vb l bs) : RS w0 W r l bs := ⟨_, _, h.b, h.v, h.rr, h.h, h.le⟩
theorem RSV.lt (h : RSV w0 W r A c vb l bs) : r < W.heap.size := (Array.getElem?_eq_some_iff.1 h.b).1
theorem RSV.below (h : RSV w0 W r A c vb l bs) (hb : Below W.heap.size W W') : RSV w0 W' r A c vb l bs :=
  ⟨(hb.block r h.lt).trans h.b, Kd.V_below h.v hb, Kd.R_below h.rr hb, below_then h.h h.h.size hb, h.le⟩
theorem RSV.c0 (h : RSV w0 W r A c vb l bs) : W.cell? ⟨r, 0, none⟩ = some (.slice A l.length c) := by simp [World.cell?, h.b]
theorem RSV.c1 (h : RSV w0 W r A c vb l bs) : W.cell? ⟨r, 1, none⟩ = some vb := by simp [World.cell?, h.b]
theorem RSV.f0 (h : RSV w0 W r A c vb l bs) : W.frozen? ⟨r, 0, none⟩ = false := by simp [World.frozen?, h.b]
theorem RSV.f1 (h : RSV w0 W r A c vb l bs) : W.frozen? ⟨r, 1, none⟩ = false := by simp [World.frozen?, h.b]
theorem RSV.hc (h : RSV w0 W r A c vb l bs) : l.length ≤ c := (Kd.V_reads' h.v).2.1
theorem RSV.cut (h : RSV w0 W r A c vb l bs) (k : Nat) (hk : k ≤ l.length) :
    ∃ A' c', (∀ V : World, (Instr.slice 203 (.slice A l.length c) (some (.int .i64 (k : Int))) none none).run Tryz.prog V = .ok (.slice A' (l.drop k).length c') V) ∧ ∀ W', Below W.heap.size W W' → RSV w0 (W'.setCell ⟨r, 0, none⟩ (.slice A' (l.drop k).length c')) r A' c' vb (l.drop k) bs := by
  obtain ⟨A', c', hrun, hV'⟩ := tokCut h.v k hk
  refine ⟨A', c', hrun, fun W' hb => ?_⟩
  have h1 := h.below hb
  exact ⟨blk_put (cs := #[.slice A l.length c, vb]) h1.b 0 _ rfl, Kd.V_far (p := ⟨r, 0, none⟩) (Kd.V_below hV' hb) (fun k hk => hk.1) _, Kd.R_far (p := ⟨r, 0, none⟩) h1.rr (fun k hk => hk) _, h1.h.setCell (p := ⟨r, 0, none⟩) h.le _, h.le⟩
end
theorem boxInfo : (Tryz.prog.info? 56).map (fun i => (i.zero, i.size, i.bytes)) = some (some (.agg #[.string ⟨#[]⟩, .string ⟨#[]⟩, .string ⟨#[]⟩]), 3, 48) := by kernel_rfl
theorem RSV.push {w0 W : World} {r c : Nat} {A : Option Addr} {l : List Tok} {bs : List Bx} {vb : Value} (h : RSV w0 W r A c vb l bs)
    {w1 : World} {v1 : Value} {bs' : List Bx} (ho : Kd.R kBx 56 w1 w0.heap.size (fun k => k ≠ r) v1 bs') (hb : Below w0.heap.size w0 w1) (hg : W.grownBy w1 vb.ownBlock) (hat : v1.ownBlock = vb.ownBlock ∨ ∃ b, v1.ownBlock = some b ∧ W.heap.size ≤ b) :
    w1.heap[r]? = some (.cells #[.slice A l.length c, vb] 208 (0, 0)) ∧ RS w0 (w1.setCell ⟨r, 1, none⟩ v1) r l bs' := by
  have hlt := h.lt
  have h1 : w1.heap[r]? = some (.cells #[.slice A l.length c, vb] 208 (0, 0)) := (hg.block r hlt (fun he => h.rr.1 r he.symm rfl)).trans h.b
  refine ⟨h1, .slice A l.length c, v1, blk_put (cs := #[.slice A l.length c, vb]) h1 1 _ rfl, ?_, ?_, hb.setCell (p := ⟨r, 1, none⟩) h.le _, h.le⟩
  · exact Kd.V_far (p := ⟨r, 1, none⟩) (Kd.V_after (u := vb) (v1 := v1) h.v hg hat) (fun k hk => hk.1) _
  · exact Kd.R_far (p := ⟨r, 1, none⟩) ho (fun k hk => hk) _
set_option maxHeartbeats 8000000 in
set_option maxRecDepth 100000 in
theorem rAddress (k : Nat) (w0 W : World) (r : Nat) (l : List Tok) (bs : List Bx) (name : ByteArray) (h : RS w0 W r l bs) (hL : l.length < 8796093022208) (e0 : Int) (l' : List Tok) (bs' : List Bx) (hF : addressO k l bs name = some (e0, l', bs')) (hGU : GU w0) :
    Calls Tryz.prog 253 #[.pointer (some ⟨r, 0, none⟩), .string name] W fun e w' => e = .returned (.int .i64 e0) ∧ Below w0.heap.size w0 w' ∧ (e0 = 0 → RS w0 w' r l' bs') := by
  have hG := h.gu hGU
  have HR := Lib.hid h
  obtain ⟨A, c, vb, h1, c0, c1, f0, f1, hlc, hC, hV, hRb, hB0, hr⟩ := h.open_
  clear h
  have hu := Tryz.underlying230
  have hu2 := Tryz.underlying54
  have hu3 := Tryz.underlying56
  have HC := Lib.hid hC
  have HL := Aside0.mk hL
  have HLC := Aside0.mk hlc
  obtain ⟨n, hn, hF⟩ := Option.bind_eq_some_iff.mp hF
  obtain ⟨⟨x, y, z⟩, hO, hF⟩ := Option.bind_eq_some_iff.mp hF
  have HO := Lib.hid hO
  have HF := Lib.hid hF
  have HN := Lib.hid hn
  have hnl := stopN_le hn
  have HNL := Aside0.mk hnl
  clear h1 hV hRb hB0 c1 f1 hlc hL hC hO hF hn hnl
  have HB := Aside0.mk (Below.refl W.heap.size W)
  go_enter Tryz.func253, Tryz.ntmps253
  go_wp2
  go_loopg [5] l.length (fun kq v5 w' => ∃ (i : Nat), v5 = .int .i64 (i : Int) ∧ Aside0 (i + kq = l.length) ∧ Aside0 (i ≤ n) ∧ Aside0 (stopN (l.drop i) = some (n - i)) ∧ Aside0 (Below W.heap.size W w'))
  case atStart => exact ⟨0, rfl, ⟨by omega⟩, ⟨by omega⟩, ⟨by simpa using HN.out⟩, HB⟩
  case round =>
    clear HB
    try clear p2
    obtain ⟨i, rfl, HK, HI, HS, HB⟩ := hrel
    have c0 := (HB.out.cell (World.block_lt_of_cell? W _ c0)).trans c0
    have f0 : wr.frozen? ⟨r, 0, none⟩ = false := (HB.out.frozen HR.out.lt).trans f0
    by_cases hi : i < l.length
    · have c3b0 : decide ((i : Int) < (l.length : Int)) = true := decide_eq_true (by omega)
      obtain ⟨ad, rfl, hx0, hx1⟩ := at_T230 HC.out (i : Int) (by omega) (by omega)
      rw [Int.toNat_natCast] at hx0 hx1
      replace hx0 := (HB.out.cell (World.block_lt_of_cell? W _ hx0)).trans hx0
      replace hx1 := (HB.out.cell (World.block_lt_of_cell? W _ hx1)).trans hx1
      obtain ⟨t, ht⟩ : ∃ t, t = rd_T230 l (i : Int) := ⟨_, rfl⟩
      have ht' : l[i] = t := by rw [ht]; simp [rd_T230, hi]
      rw [← ht] at hx0 hx1
      have p1 : (0 ≤ (i : Int)) = True := eq_true (by omega)
      have q1 : ((i : Int) < (l.length : Int)) = True := eq_true (by omega)
      have q2 : (i < l.length) = True := eq_true hi
      have HI2 := Aside0.mk hi
      have hs := HS.out
      rw [List.drop_eq_getElem_cons hi, ht'] at hs
      simp only [stopN] at hs
      obtain ⟨b, hb0, hs⟩ := Option.bind_eq_some_iff.mp hs
      have HBS := Lib.hid hb0
      clear hb0 ht ht' HS
      cases b with
      | false =>
        rw [if_neg (by decide)] at hs
        obtain ⟨m, hm, hm2⟩ := Option.map_eq_some_iff.mp hs
        have hs' : stopN (l.drop (i + 1)) = some (n - (i + 1)) := by rw [hm]; congr 1; omega
        have HS' := Aside0.mk hs'
        have hin : i + 1 ≤ n := by omega
        have HIN := Aside0.mk hin
        clear hs hm hm2 hs' hin m
        go_wp2_with (go_at_call 266; refine (mbx_stops.calls _ _ false _ HBS.out (hG.below HB.out)).mono ?_; rintro e w' ⟨rfl, hb⟩; have n0_ := Aside0.mk (below_step HB.out hb); clear hb)
        go_roundg (gk - 1)
        case measure => have := HK.out; have := HI2.out; omega
        case rel => exact ⟨i + 1, by simp only [wrapI _ (show i < 9223372036854775807 by have := HL.out; have := HI2.out; omega)], ⟨by have := HK.out; have := HI2.out; omega⟩, HIN, HS', n0_⟩
      | true =>
        rw [if_pos rfl] at hs
        have hni : n = i := by have := Option.some.inj hs; have := HI.out; omega
        clear hs
        subst hni
        obtain ⟨l1, hl1⟩ : ∃ l1, l1 = l.take n := ⟨_, rfl⟩
        obtain ⟨l2, hl2⟩ : ∃ l2, l2 = l.drop n := ⟨_, rfl⟩
        have HL2 := Lib.hid hl2
        have ht := tokTake HC.out HLC.out n HNL.out
        rw [← hl1] at ht HO
        rw [← hl2] at HF
        have hrunT := ht.1
        have HT1 := Lib.hid ht.2.1
        have HT2 := Lib.hid ht.2.2
        clear ht hl1 hl2 HK HI
        by_cases hz : z = 0
        · subst hz
          have hF := HF.out
          clear HF
          simp only [if_true] at hF
          by_cases hh : bs.length = 100
          · rw [if_pos hh] at hF
            simp only [Option.some.injEq, Prod.mk.injEq] at hF
            obtain ⟨rfl, rfl, rfl⟩ := hF
            have hbe : ((bs.length : Int) == 100) = true := by rw [hh]; rfl
            have hbe2 : (bs.length = 100) = True := eq_true hh
            clear hh
            go_wp2_with (first | (go_at_call 266; refine (mbx_stops.calls _ _ true _ HBS.out (hG.below HB.out)).mono ?_; rintro e w' ⟨rfl, hb⟩; have HB1 := Aside0.mk (below_step HB.out hb); have f01 : w'.frozen? ⟨r, 0, none⟩ = false := (hb.frozen (Nat.lt_of_lt_of_le HR.out.lt HB.out.size)).trans f0; have c01 := (hb.cell (World.block_lt_of_cell? wr _ c0)).trans c0; clear hb) | (go_at_call 267; refine (addr_Of.calls k _ _ l1 x y 0 _ (Kd.C_below HT1.out HB1.out) HT2.out HO.out (hG.below HB1.out)).mono ?_; rintro e w2 ⟨rfl, hb⟩; have HB2 := Aside0.mk (below_step HB1.out hb); clear hb; obtain ⟨A3, c3, vb3, hv3⟩ := (HR.out.below HB2.out).toV; have HV3 := Lib.hid hv3; have d0 := hv3.c0; have d1 := hv3.c1; have g0 := hv3.f0; have g1 := hv3.f1; obtain ⟨A4, c4, hrun4, hv4⟩ := hv3.cut n HNL.out; rw [← HL2.out] at hrun4 hv4; have HV4 := Lib.hid hv4; obtain ⟨A5, c5, he5⟩ := Kd.R_slice hv3.rr; subst he5; clear hv3 hv4) | ((with_reducible refine gate_dst (N := 6) rfl ?_); refine box_event ?hg (N := 6) ?hd (cs := #[.string (⟨#[]⟩ : ByteArray), .string (⟨#[]⟩ : ByteArray)]) (t := 54) ?hr ?_; (case hd => rfl); (case hg => rfl); (case hr => first | (go_simp; done) | (go_simp; rfl)); intro gb hg w9 hbox hb; have HB9 := Aside0.mk hb; have BK := Aside0.mk hbox; have GE := Aside0.mk (show w2.heap.size ≤ gb by omega); have hgr : r ≠ gb := (by have h1 := GE.out; have h2 := HV3.out.lt; omega); have hgr' : (r = gb) = False := eq_false hgr; have hrg' : (gb = r) = False := eq_false (fun h => hgr h.symm); replace d0 := (hb.cell (World.block_lt_of_cell? w2 _ d0)).trans d0; replace d1 := (hb.cell (World.block_lt_of_cell? w2 _ d1)).trans d1; replace g0 : w9.frozen? ⟨r, 0, none⟩ = false := (hb.frozen HV3.out.lt).trans g0; replace g1 : w9.frozen? ⟨r, 1, none⟩ = false := (hb.frozen HV3.out.lt).trans g1; clear hb hg hbox; have hcz0 : w9.cell? ⟨gb, 0, none⟩ = some (.string (⟨#[]⟩ : ByteArray)) := (blk_cell BK.out 0).trans rfl; have hcz1 : w9.cell? ⟨gb, 1, none⟩ = some (.string (⟨#[]⟩ : ByteArray)) := (blk_cell BK.out 1).trans rfl; have hfz0 := blk_frozen BK.out 0; have hfz1 := blk_frozen BK.out 1))
            go_ret
            exact ⟨rfl, (HV4.out _ (below_set (below_set HB9.out GE.out) GE.out)).h, fun h => absurd h (by decide)⟩
          · rw [if_neg hh] at hF
            by_cases hlt : bs.length < 100
            · rw [if_pos hlt] at hF
              simp only [Option.some.injEq, Prod.mk.injEq] at hF
              obtain ⟨rfl, rfl, rfl⟩ := hF
              have hbe : ((bs.length : Int) == 100) = false := by simp; omega
              have hbe2 : (bs.length = 100) = False := eq_false hh
              have HLT := Aside0.mk hlt
              clear hh hlt
              obtain ⟨bs2, hbs2⟩ : ∃ bs2, bs2 = bs ++ [(⟨name, ⟨x, y⟩⟩ : Bx)] := ⟨_, rfl⟩
              have HBS2 := Lib.hid hbs2
              clear hbs2
              go_wp2_with (first | (go_at_call 266; refine (mbx_stops.calls _ _ true _ HBS.out (hG.below HB.out)).mono ?_; rintro e w' ⟨rfl, hb⟩; have HB1 := Aside0.mk (below_step HB.out hb); have f01 : w'.frozen? ⟨r, 0, none⟩ = false := (hb.frozen (Nat.lt_of_lt_of_le HR.out.lt HB.out.size)).trans f0; have c01 := (hb.cell (World.block_lt_of_cell? wr _ c0)).trans c0; clear hb) | (go_at_call 267; refine (addr_Of.calls k _ _ l1 x y 0 _ (Kd.C_below HT1.out HB1.out) HT2.out HO.out (hG.below HB1.out)).mono ?_; rintro e w2 ⟨rfl, hb⟩; have HB2 := Aside0.mk (below_step HB1.out hb); clear hb; obtain ⟨A3, c3, vb3, hv3⟩ := (HR.out.below HB2.out).toV; have HV3 := Lib.hid hv3; have d0 := hv3.c0; have d1 := hv3.c1; have g0 := hv3.f0; have g1 := hv3.f1; obtain ⟨A4, c4, hrun4, hv4⟩ := hv3.cut n HNL.out; rw [← HL2.out] at hrun4 hv4; have HV4 := Lib.hid hv4; obtain ⟨A5, c5, he5⟩ := Kd.R_slice hv3.rr; subst he5; clear hv3 hv4) | ((with_reducible refine gate_dst (N := 6) rfl ?_); refine box_event ?hg (N := 6) ?hd (cs := #[.string (⟨#[]⟩ : ByteArray), .string (⟨#[]⟩ : ByteArray)]) (t := 54) ?hr ?_; (case hd => rfl); (case hg => rfl); (case hr => first | (go_simp; done) | (go_simp; rfl)); intro gb hg w9 hbox hb; have HB9 := Aside0.mk hb; have BK := Aside0.mk hbox; have GE := Aside0.mk (show w2.heap.size ≤ gb by omega); have hgr : r ≠ gb := (by have h1 := GE.out; have h2 := HV3.out.lt; omega); have hgr' : (r = gb) = False := eq_false hgr; have hrg' : (gb = r) = False := eq_false (fun h => hgr h.symm); replace d0 := (hb.cell (World.block_lt_of_cell? w2 _ d0)).trans d0; replace d1 := (hb.cell (World.block_lt_of_cell? w2 _ d1)).trans d1; replace g0 : w9.frozen? ⟨r, 0, none⟩ = false := (hb.frozen HV3.out.lt).trans g0; replace g1 : w9.frozen? ⟨r, 1, none⟩ = false := (hb.frozen HV3.out.lt).trans g1; clear hb hg hbox; have hcz0 : w9.cell? ⟨gb, 0, none⟩ = some (.string (⟨#[]⟩ : ByteArray)) := (blk_cell BK.out 0).trans rfl; have hcz1 : w9.cell? ⟨gb, 1, none⟩ = some (.string (⟨#[]⟩ : ByteArray)) := (blk_cell BK.out 1).trans rfl; have hfz0 := blk_frozen BK.out 0; have hfz1 := blk_frozen BK.out 1))
              have hRX := HV4.out ((w9.setCell ⟨gb, 0, none⟩ (.string x)).setCell ⟨gb, 1, none⟩ (.string y)) (below_set (below_set HB9.out GE.out) GE.out)
              have hgb0 := blk_put (cs := #[.string x, .string (⟨#[]⟩ : ByteArray)]) (blk_put (cs := #[.string (⟨#[]⟩ : ByteArray), .string (⟨#[]⟩ : ByteArray)]) BK.out 0 (.string x) rfl) 1 (.string y) rfl
              have hgb := (Below.heap_setCell _ ⟨r, 0, none⟩ (.slice A4 l2.length c4) gb (Ne.symm hgr)).trans hgb0
              have hgl : some gb ≠ (Value.slice A5 bs.length c5).ownBlock := fun he => by
                have h1 := ((Kd.R_bound HV3.out.rr).1 gb he.symm).2.2.1
                have h2 := GE.out
                omega
              obtain ⟨X, hX⟩ : ∃ X, X = (((w9.setCell ⟨gb, 0, none⟩ (.string x)).setCell ⟨gb, 1, none⟩ (.string y)).setCell ⟨r, 0, none⟩ (.slice A4 l2.length c4)) := ⟨_, rfl⟩
              simp only [← hX] at hRX hgb ⊢
              have hRY := hRX.below (below_drew (Below.refl _ _))
              have hgY : X.drew.heap[gb]? = some (.cells #[.string x, .string y] 54 (0, 0)) := hgb
              have s0 := hRY.c1
              have s1 : X.drew.cell? ⟨gb, 0, none⟩ = some (.string x) := by simp [World.cell?, hgY]
              have s2 : X.drew.cell? ⟨gb, 1, none⟩ = some (.string y) := by simp [World.cell?, hgY]
              clear hX hgb hRX hgb0 d0 d1 g0 g1 hcz0 hcz1 hfz0 hfz1 hrunT hrun4 c0 f0
              refine start_ (n := 13) (S := (fun w' => w'.cell? ⟨r, 1, none⟩ = some (.slice A5 bs.length c5) ∧ w'.cell? ⟨gb, 0, none⟩ = some (.string x) ∧ w'.cell? ⟨gb, 1, none⟩ = some (.string y))) (ds := [12]) #[false, false, false, false, false, false, false, false, false, false, false, false, false] (by kernel_rfl) rfl rfl ⟨s0, s1, s2⟩ (fun hHeld => ?_)
              generalize X.drew = Y at hRY hgY s0 s1 s2 hHeld ⊢
              refine pure_ (i := 0) (N := some 56) (v := ?_) (a' := ?_) #[true, false, false, false, false, false, false, false, false, false, false, false, false] rfl rfl (by kernel_rfl) (fun _ _ _ h => h) (Or.inl ⟨by rfl, ?_⟩) ?_ ?_
              rotate_left
              · intro w'
                go_simp
                with_reducible rfl
              rotate_left
              · simp only [Act.put, List.setIfInBounds_toArray, List.set_cons_zero, List.set_cons_succ, i64_w, i32_w]
                rfl
              refine pure_ (i := 1) (N := some 57) (v := ?_) (a' := ?_) #[true, true, false, false, false, false, false, false, false, false, false, false, false] rfl rfl (by kernel_rfl) (fun _ _ _ h => h) (Or.inl ⟨by rfl, ?_⟩) ?_ ?_
              rotate_left
              · intro w'
                go_simp
                with_reducible rfl
              rotate_left
              · simp only [Act.put, List.setIfInBounds_toArray, List.set_cons_zero, List.set_cons_succ, i64_w, i32_w]
                rfl
              refine pure_ (i := 2) (N := some 58) (v := ?_) (a' := ?_) #[true, true, true, false, false, false, false, false, false, false, false, false, false] rfl rfl (by kernel_rfl) (fun _ _ _ h => h) (Or.inl ⟨by rfl, ?_⟩) ?_ ?_
              rotate_left
              · intro w'
                go_simp
                with_reducible rfl
              rotate_left
              · simp only [Act.put, List.setIfInBounds_toArray, List.set_cons_zero, List.set_cons_succ, i64_w, i32_w]
                rfl
              refine pure_ (i := 3) (N := some 59) (v := ?_) (a' := ?_) #[true, true, true, true, false, false, false, false, false, false, false, false, false] rfl rfl (by kernel_rfl) (fun _ _ _ h => h) (Or.inl ⟨by rfl, ?_⟩) ?_ ?_
              rotate_left
              · intro w'
                go_simp
                with_reducible rfl
              rotate_left
              · simp only [Act.put, List.setIfInBounds_toArray, List.set_cons_zero, List.set_cons_succ, i64_w, i32_w]
                rfl
              refine pure_ (i := 5) (N := some 61) (v := ?_) (a' := ?_) #[true, true, true, true, false, true, false, false, false, false, false, false, false] rfl rfl (by kernel_rfl) (fun _ _ _ h => h) (Or.inl ⟨by rfl, ?_⟩) ?_ ?_
              rotate_left
              · intro w'
                go_simp
                with_reducible rfl
              rotate_left
              · simp only [Act.put, List.setIfInBounds_toArray, List.set_cons_zero, List.set_cons_succ, i64_w, i32_w]
                rfl
              refine take_ (i := 4) (N := some 60) (v := ?_) (a' := ?_) #[true, true, true, true, true, true, false, false, false, false, false, false, false] rfl rfl (by kernel_rfl) (fun _ _ _ h => h) (Or.inl ⟨by rfl, ?_⟩) hHeld ?_ ?_
              rotate_left
              · rintro w' ⟨s0, s1, s2⟩
                go_simp
                with_reducible rfl
              rotate_left
              · simp only [Act.put, List.setIfInBounds_toArray, List.set_cons_zero, List.set_cons_succ, i64_w, i32_w]
                rfl
              refine take_ (i := 6) (N := some 62) (v := ?_) (a' := ?_) #[true, true, true, true, true, true, true, false, false, false, false, false, false] rfl rfl (by kernel_rfl) (fun _ _ _ h => h) (Or.inl ⟨by rfl, ?_⟩) hHeld ?_ ?_
              rotate_left
              · rintro w' ⟨s0, s1, s2⟩
                go_simp
                with_reducible rfl
              rotate_left
              · simp only [Act.put, List.setIfInBounds_toArray, List.set_cons_zero, List.set_cons_succ, i64_w, i32_w]
                rfl
              refine pure_ (i := 7) (N := some 63) (v := ?_) (a' := ?_) #[true, true, true, true, true, true, true, true, false, false, false, false, false] rfl rfl (by kernel_rfl) (fun _ _ _ h => h) (Or.inl ⟨by rfl, ?_⟩) ?_ ?_
              rotate_left
              · intro w'
                go_simp
                with_reducible rfl
              rotate_left
              · simp only [Act.put, List.setIfInBounds_toArray, List.set_cons_zero, List.set_cons_succ, i64_w, i32_w]
                rfl
              refine one_ (i := 8) (N := some 64) #[true, true, true, true, true, true, true, true, true, false, false, false, false] rfl rfl (by kernel_rfl) (by decide) (fun K hK => ?_)
              refine value_ (w1 := ?_) (v := ?_) (by rfl) rfl ?_ ?_
              rotate_left 2
              · go_simp
                constructor
                · rfl
                · rfl
              refine hK.out _ _ ⟨(World.cell?_alloc_lt _ _ _ (World.block_lt_of_cell? _ _ s0)).trans s0, (World.cell?_alloc_lt _ _ _ (World.block_lt_of_cell? _ _ s1)).trans s1, (World.cell?_alloc_lt _ _ _ (World.block_lt_of_cell? _ _ s2)).trans s2⟩ (fun hHeld => ?_)
              clear hK K
              refine norm_ (a' := ?_) ?_ ?_
              rotate_left
              · show Act.put _ (some 64) _ = _
                simp only [Act.put, List.setIfInBounds_toArray, List.set_cons_zero, List.set_cons_succ, i64_w, i32_w]
                rfl
              refine one_ (i := 9) (N := some 65) #[true, true, true, true, true, true, true, true, true, true, false, false, false] rfl rfl (by kernel_rfl) (by decide) (fun K hK => ?_)
              refine Kd.R_append_step kBx (w0 := w0) w0.heap.size (by rfl) (.tmp 60) (.tmp 64) 160 56 (.agg #[.string ⟨#[]⟩, .string ⟨#[]⟩, .string ⟨#[]⟩]) 48 rfl Tryz.underlying160 boxInfo rfl (by decide) (by omega) (.slice A5 bs.length c5) bs ⟨name, ⟨x, y⟩⟩ [.string name, .string x, .string y] (fun k => k ≠ r) (fun _ => False) rfl rfl ?aP (fun _ hk => hk.elim) ?aF ?aO ?aB ?aS ?aL ?_
              (case aP => exact k56_mkM _ _ _ ⟨name, ⟨x, y⟩⟩)
              (case aF => exact fun q hq => by (have h1 := hRY.lt; omega))
              (case aO => exact hRY.rr)
              (case aB => exact hRY.h)
              (case aS => exact hRY.h.size)
              (case aL => have := HLT.out; omega)
              intro v65 w13 ho hb hg hat
              rw [← HBS2.out] at ho
              obtain ⟨A6, c6, he6⟩ := Kd.R_slice ho
              subst he6
              obtain ⟨hw13, hRS⟩ := hRY.push ho hb hg hat
              have HRS := Lib.hid hRS
              have cw : w13.cell? ⟨r, 1, none⟩ = some (.slice A5 bs.length c5) := by simp [World.cell?, hw13]
              have fw : w13.frozen? ⟨r, 1, none⟩ = false := by simp [World.frozen?, hw13]
              have hg13 := (hg.block gb (Array.getElem?_eq_some_iff.1 hgY).1 hgl).trans hgY
              clear ho hb hg hat hw13 hRS
              refine hK.out _ _ ⟨cw, by simp [World.cell?, hg13], by simp [World.cell?, hg13]⟩ (fun hHeld => ?_)
              clear hK K
              refine norm_ (a' := ?_) ?_ ?_
              rotate_left
              · show Act.put _ (some 65) _ = _
                simp only [Act.put, List.setIfInBounds_toArray, List.set_cons_zero, List.set_cons_succ, i64_w, i32_w]
                rfl
              refine pure_ (i := 10) (N := some 66) (v := ?_) (a' := ?_) #[true, true, true, true, true, true, true, true, true, true, true, false, false] rfl rfl (by kernel_rfl) (fun _ _ _ h => h) (Or.inl ⟨by rfl, ?_⟩) ?_ ?_
              rotate_left
              · intro w'
                go_simp
                with_reducible rfl
              rotate_left
              · simp only [Act.put, List.setIfInBounds_toArray, List.set_cons_zero, List.set_cons_succ, i64_w, i32_w]
                rfl
              refine pure_ (i := 11) (N := some 67) (v := ?_) (a' := ?_) #[true, true, true, true, true, true, true, true, true, true, true, true, false] rfl rfl (by kernel_rfl) (fun _ _ _ h => h) (Or.inl ⟨by rfl, ?_⟩) ?_ ?_
              rotate_left
              · intro w'
                go_simp
                with_reducible rfl
              rotate_left
              · simp only [Act.put, List.setIfInBounds_toArray, List.set_cons_zero, List.set_cons_succ, i64_w, i32_w]
                rfl
              refine last_ (i := 12) (N := none) #[true, true, true, true, true, true, true, true, true, true, true, true, true] rfl rfl (by kernel_rfl) (by decide) (fun K hK => ?_)
              refine skip_ (w1 := w13.setCell ⟨r, 1, none⟩ (.slice A6 bs2.length c6)) (by rfl) rfl ?_ (hK.out _ _ ?_)
              · go_simp
              clear hK K
              refine done_ (by kernel_rfl) ?_
              try go_wp2
              go_ret
              exact ⟨rfl, HRS.out.toV.elim fun _ h => h.elim fun _ h => h.elim fun _ h => h.h, by rw [← HBS2.out]; exact HRS.out⟩
            · rw [if_neg hlt] at hF
              exact absurd hF (by simp)
        · have hF := HF.out
          rw [if_neg hz] at hF
          simp only [Option.some.injEq, Prod.mk.injEq] at hF
          obtain ⟨rfl, rfl, rfl⟩ := hF
          have hzb : (z == 0) = false := beq_eq_false_iff_ne.mpr hz
          have hzb2 : (z != 0) = true := bne_iff_ne.mpr hz
          have HZ := Aside0.mk hz
          clear hz HF
          go_wp2_with (first | (go_at_call 266; refine (mbx_stops.calls _ _ true _ HBS.out (hG.below HB.out)).mono ?_; rintro e w' ⟨rfl, hb⟩; have HB1 := Aside0.mk (below_step HB.out hb); have f01 : w'.frozen? ⟨r, 0, none⟩ = false := (hb.frozen (Nat.lt_of_lt_of_le HR.out.lt HB.out.size)).trans f0; have c01 := (hb.cell (World.block_lt_of_cell? wr _ c0)).trans c0; clear hb) | (go_at_call 267; refine (addr_Of.calls k _ _ l1 x y z _ (Kd.C_below HT1.out HB1.out) HT2.out HO.out (hG.below HB1.out)).mono ?_; rintro e w2 ⟨rfl, hb⟩; have HB2 := Aside0.mk (below_step HB1.out hb); clear hb; obtain ⟨A3, c3, vb3, hv3⟩ := (HR.out.below HB2.out).toV; have HV3 := Lib.hid hv3; have d0 := hv3.c0; have d1 := hv3.c1; have g0 := hv3.f0; have g1 := hv3.f1; obtain ⟨A4, c4, hrun4, hv4⟩ := hv3.cut n HNL.out; rw [← HL2.out] at hrun4 hv4; have HV4 := Lib.hid hv4; obtain ⟨A5, c5, he5⟩ := Kd.R_slice hv3.rr; subst he5; clear hv3 hv4) | ((with_reducible refine gate_dst (N := 6) rfl ?_); refine box_event ?hg (N := 6) ?hd (cs := #[.string (⟨#[]⟩ : ByteArray), .string (⟨#[]⟩ : ByteArray)]) (t := 54) ?hr ?_; (case hd => rfl); (case hg => rfl); (case hr => first | (go_simp; done) | (go_simp; rfl)); intro gb hg w9 hbox hb; have HB9 := Aside0.mk hb; have BK := Aside0.mk hbox; have GE := Aside0.mk (show w2.heap.size ≤ gb by omega); have hgr : r ≠ gb := (by have h1 := GE.out; have h2 := HV3.out.lt; omega); have hgr' : (r = gb) = False := eq_false hgr; have hrg' : (gb = r) = False := eq_false (fun h => hgr h.symm); replace d0 := (hb.cell (World.block_lt_of_cell? w2 _ d0)).trans d0; replace d1 := (hb.cell (World.block_lt_of_cell? w2 _ d1)).trans d1; replace g0 : w9.frozen? ⟨r, 0, none⟩ = false := (hb.frozen HV3.out.lt).trans g0; replace g1 : w9.frozen? ⟨r, 1, none⟩ = false := (hb.frozen HV3.out.lt).trans g1; clear hb hg hbox; have hcz0 : w9.cell? ⟨gb, 0, none⟩ = some (.string (⟨#[]⟩ : ByteArray)) := (blk_cell BK.out 0).trans rfl; have hcz1 : w9.cell? ⟨gb, 1, none⟩ = some (.string (⟨#[]⟩ : ByteArray)) := (blk_cell BK.out 1).trans rfl; have hfz0 := blk_frozen BK.out 0; have hfz1 := blk_frozen BK.out 1))
          go_ret
          exact ⟨rfl, (HV3.out.below (below_set (below_set HB9.out GE.out) GE.out)).h, fun h => absurd h HZ.out⟩
    · have hni : n = i := by have := HNL.out; have := HI.out; omega
      clear HS
      subst hni
      have c3b0 : decide ((n : Int) < (l.length : Int)) = false := decide_eq_false (by omega)
      have c3n : (n < l.length) = False := eq_false hi
      obtain ⟨l1, hl1⟩ : ∃ l1, l1 = l.take n := ⟨_, rfl⟩
      obtain ⟨l2, hl2⟩ : ∃ l2, l2 = l.drop n := ⟨_, rfl⟩
      have HL2 := Lib.hid hl2
      have ht := tokTake HC.out HLC.out n HNL.out
      rw [← hl1] at ht HO
      rw [← hl2] at HF
      have hrunT := ht.1
      have HT1 := Lib.hid ht.2.1
      have HT2 := Lib.hid ht.2.2
      clear ht hl1 hl2 HK HI
      by_cases hz : z = 0
      · subst hz
        have hF := HF.out
        clear HF
        simp only [if_true] at hF
        by_cases hh : bs.length = 100
        · rw [if_pos hh] at hF
          simp only [Option.some.injEq, Prod.mk.injEq] at hF
          obtain ⟨rfl, rfl, rfl⟩ := hF
          have hbe : ((bs.length : Int) == 100) = true := by rw [hh]; rfl
          have hbe2 : (bs.length = 100) = True := eq_true hh
          clear hh
          go_wp2_with (first | (go_at_call 267; refine (addr_Of.calls k _ _ l1 x y 0 _ (Kd.C_below HT1.out HB.out) HT2.out HO.out (hG.below HB.out)).mono ?_; rintro e w2 ⟨rfl, hb⟩; have HB2 := Aside0.mk (below_step HB.out hb); clear hb; obtain ⟨A3, c3, vb3, hv3⟩ := (HR.out.below HB2.out).toV; have HV3 := Lib.hid hv3; have d0 := hv3.c0; have d1 := hv3.c1; have g0 := hv3.f0; have g1 := hv3.f1; obtain ⟨A4, c4, hrun4, hv4⟩ := hv3.cut n HNL.out; rw [← HL2.out] at hrun4 hv4; have HV4 := Lib.hid hv4; obtain ⟨A5, c5, he5⟩ := Kd.R_slice hv3.rr; subst he5; clear hv3 hv4) | ((with_reducible refine gate_dst (N := 6) rfl ?_); refine box_event ?hg (N := 6) ?hd (cs := #[.string (⟨#[]⟩ : ByteArray), .string (⟨#[]⟩ : ByteArray)]) (t := 54) ?hr ?_; (case hd => rfl); (case hg => rfl); (case hr => first | (go_simp; done) | (go_simp; rfl)); intro gb hg w9 hbox hb; have HB9 := Aside0.mk hb; have BK := Aside0.mk hbox; have GE := Aside0.mk (show w2.heap.size ≤ gb by omega); have hgr : r ≠ gb := (by have h1 := GE.out; have h2 := HV3.out.lt; omega); have hgr' : (r = gb) = False := eq_false hgr; have hrg' : (gb = r) = False := eq_false (fun h => hgr h.symm); replace d0 := (hb.cell (World.block_lt_of_cell? w2 _ d0)).trans d0; replace d1 := (hb.cell (World.block_lt_of_cell? w2 _ d1)).trans d1; replace g0 : w9.frozen? ⟨r, 0, none⟩ = false := (hb.frozen HV3.out.lt).trans g0; replace g1 : w9.frozen? ⟨r, 1, none⟩ = false := (hb.frozen HV3.out.lt).trans g1; clear hb hg hbox; have hcz0 : w9.cell? ⟨gb, 0, none⟩ = some (.string (⟨#[]⟩ : ByteArray)) := (blk_cell BK.out 0).trans rfl; have hcz1 : w9.cell? ⟨gb, 1, none⟩ = some (.string (⟨#[]⟩ : ByteArray)) := (blk_cell BK.out 1).trans rfl; have hfz0 := blk_frozen BK.out 0; have hfz1 := blk_frozen BK.out 1))
          go_ret
          exact ⟨rfl, (HV4.out _ (below_set (below_set HB9.out GE.out) GE.out)).h, fun h => absurd h (by decide)⟩
        · rw [if_neg hh] at hF
          by_cases hlt : bs.length < 100
          · rw [if_pos hlt] at hF
            simp only [Option.some.injEq, Prod.mk.injEq] at hF
            obtain ⟨rfl, rfl, rfl⟩ := hF
            have hbe : ((bs.length : Int) == 100) = false := by simp; omega
            have hbe2 : (bs.length = 100) = False := eq_false hh
            have HLT := Aside0.mk hlt
            clear hh hlt
            obtain ⟨bs2, hbs2⟩ : ∃ bs2, bs2 = bs ++ [(⟨name, ⟨x, y⟩⟩ : Bx)] := ⟨_, rfl⟩
            have HBS2 := Lib.hid hbs2
            clear hbs2
            go_wp2_with (first | (go_at_call 267; refine (addr_Of.calls k _ _ l1 x y 0 _ (Kd.C_below HT1.out HB.out) HT2.out HO.out (hG.below HB.out)).mono ?_; rintro e w2 ⟨rfl, hb⟩; have HB2 := Aside0.mk (below_step HB.out hb); clear hb; obtain ⟨A3, c3, vb3, hv3⟩ := (HR.out.below HB2.out).toV; have HV3 := Lib.hid hv3; have d0 := hv3.c0; have d1 := hv3.c1; have g0 := hv3.f0; have g1 := hv3.f1; obtain ⟨A4, c4, hrun4, hv4⟩ := hv3.cut n HNL.out; rw [← HL2.out] at hrun4 hv4; have HV4 := Lib.hid hv4; obtain ⟨A5, c5, he5⟩ := Kd.R_slice hv3.rr; subst he5; clear hv3 hv4) | ((with_reducible refine gate_dst (N := 6) rfl ?_); refine box_event ?hg (N := 6) ?hd (cs := #[.string (⟨#[]⟩ : ByteArray), .string (⟨#[]⟩ : ByteArray)]) (t := 54) ?hr ?_; (case hd => rfl); (case hg => rfl); (case hr => first | (go_simp; done) | (go_simp; rfl)); intro gb hg w9 hbox hb; have HB9 := Aside0.mk hb; have BK := Aside0.mk hbox; have GE := Aside0.mk (show w2.heap.size ≤ gb by omega); have hgr : r ≠ gb := (by have h1 := GE.out; have h2 := HV3.out.lt; omega); have hgr' : (r = gb) = False := eq_false hgr; have hrg' : (gb = r) = False := eq_false (fun h => hgr h.symm); replace d0 := (hb.cell (World.block_lt_of_cell? w2 _ d0)).trans d0; replace d1 := (hb.cell (World.block_lt_of_cell? w2 _ d1)).trans d1; replace g0 : w9.frozen? ⟨r, 0, none⟩ = false := (hb.frozen HV3.out.lt).trans g0; replace g1 : w9.frozen? ⟨r, 1, none⟩ = false := (hb.frozen HV3.out.lt).trans g1; clear hb hg hbox; have hcz0 : w9.cell? ⟨gb, 0, none⟩ = some (.string (⟨#[]⟩ : ByteArray)) := (blk_cell BK.out 0).trans rfl; have hcz1 : w9.cell? ⟨gb, 1, none⟩ = some (.string (⟨#[]⟩ : ByteArray)) := (blk_cell BK.out 1).trans rfl; have hfz0 := blk_frozen BK.out 0; have hfz1 := blk_frozen BK.out 1))
            have hRX := HV4.out ((w9.setCell ⟨gb, 0, none⟩ (.string x)).setCell ⟨gb, 1, none⟩ (.string y)) (below_set (below_set HB9.out GE.out) GE.out)
            have hgb0 := blk_put (cs := #[.string x, .string (⟨#[]⟩ : ByteArray)]) (blk_put (cs := #[.string (⟨#[]⟩ : ByteArray), .string (⟨#[]⟩ : ByteArray)]) BK.out 0 (.string x) rfl) 1 (.string y) rfl
            have hgb := (Below.heap_setCell _ ⟨r, 0, none⟩ (.slice A4 l2.length c4) gb (Ne.symm hgr)).trans hgb0
            have hgl : some gb ≠ (Value.slice A5 bs.length c5).ownBlock := fun he => by
              have h1 := ((Kd.R_bound HV3.out.rr).1 gb he.symm).2.2.1
              have h2 := GE.out
              omega
            obtain ⟨X, hX⟩ : ∃ X, X = (((w9.setCell ⟨gb, 0, none⟩ (.string x)).setCell ⟨gb, 1, none⟩ (.string y)).setCell ⟨r, 0, none⟩ (.slice A4 l2.length c4)) := ⟨_, rfl⟩
            simp only [← hX] at hRX hgb ⊢
            have hRY := hRX.below (below_drew (Below.refl _ _))
            have hgY : X.drew.heap[gb]? = some (.cells #[.string x, .string y] 54 (0, 0)) := hgb
            have s0 := hRY.c1
            have s1 : X.drew.cell? ⟨gb, 0, none⟩ = some (.string x) := by simp [World.cell?, hgY]
            have s2 : X.drew.cell? ⟨gb, 1, none⟩ = some (.string y) := by simp [World.cell?, hgY]
            clear hX hgb hRX hgb0 d0 d1 g0 g1 hcz0 hcz1 hfz0 hfz1 hrunT hrun4 c0 f0
            refine start_ (n := 13) (S := (fun w' => w'.cell? ⟨r, 1, none⟩ = some (.slice A5 bs.length c5) ∧ w'.cell? ⟨gb, 0, none⟩ = some (.string x) ∧ w'.cell? ⟨gb, 1, none⟩ = some (.string y))) (ds := [12]) #[false, false, false, false, false, false, false, false, false, false, false, false, false] (by kernel_rfl) rfl rfl ⟨s0, s1, s2⟩ (fun hHeld => ?_)
            generalize X.drew = Y at hRY hgY s0 s1 s2 hHeld ⊢
            refine pure_ (i := 0) (N := some 56) (v := ?_) (a' := ?_) #[true, false, false, false, false, false, false, false, false, false, false, false, false] rfl rfl (by kernel_rfl) (fun _ _ _ h => h) (Or.inl ⟨by rfl, ?_⟩) ?_ ?_
            rotate_left
            · intro w'
              go_simp
              with_reducible rfl
            rotate_left
            · simp only [Act.put, List.setIfInBounds_toArray, List.set_cons_zero, List.set_cons_succ, i64_w, i32_w]
              rfl
            refine pure_ (i := 1) (N := some 57) (v := ?_) (a' := ?_) #[true, true, false, false, false, false, false, false, false, false, false, false, false] rfl rfl (by kernel_rfl) (fun _ _ _ h => h) (Or.inl ⟨by rfl, ?_⟩) ?_ ?_
            rotate_left
            · intro w'
              go_simp
              with_reducible rfl
            rotate_left
            · simp only [Act.put, List.setIfInBounds_toArray, List.set_cons_zero, List.set_cons_succ, i64_w, i32_w]
              rfl
            refine pure_ (i := 2) (N := some 58) (v := ?_) (a' := ?_) #[true, true, true, false, false, false, false, false, false, false, false, false, false] rfl rfl (by kernel_rfl) (fun _ _ _ h => h) (Or.inl ⟨by rfl, ?_⟩) ?_ ?_
            rotate_left
            · intro w'
              go_simp
              with_reducible rfl
            rotate_left
            · simp only [Act.put, List.setIfInBounds_toArray, List.set_cons_zero, List.set_cons_succ, i64_w, i32_w]
              rfl
            refine pure_ (i := 3) (N := some 59) (v := ?_) (a' := ?_) #[true, true, true, true, false, false, false, false, false, false, false, false, false] rfl rfl (by kernel_rfl) (fun _ _ _ h => h) (Or.inl ⟨by rfl, ?_⟩) ?_ ?_
            rotate_left
            · intro w'
              go_simp
              with_reducible rfl
            rotate_left
            · simp only [Act.put, List.setIfInBounds_toArray, List.set_cons_zero, List.set_cons_succ, i64_w, i32_w]
              rfl
            refine pure_ (i := 5) (N := some 61) (v := ?_) (a' := ?_) #[true, true, true, true, false, true, false, false, false, false, false, false, false] rfl rfl (by kernel_rfl) (fun _ _ _ h => h) (Or.inl ⟨by rfl, ?_⟩) ?_ ?_
            rotate_left
            · intro w'
              go_simp
              with_reducible rfl
            rotate_left
            · simp only [Act.put, List.setIfInBounds_toArray, List.set_cons_zero, List.set_cons_succ, i64_w, i32_w]
              rfl
            refine take_ (i := 4) (N := some 60) (v := ?_) (a' := ?_) #[true, true, true, true, true, true, false, false, false, false, false, false, false] rfl rfl (by kernel_rfl) (fun _ _ _ h => h) (Or.inl ⟨by rfl, ?_⟩) hHeld ?_ ?_
            rotate_left
            · rintro w' ⟨s0, s1, s2⟩
              go_simp
              with_reducible rfl
            rotate_left
            · simp only [Act.put, List.setIfInBounds_toArray, List.set_cons_zero, List.set_cons_succ, i64_w, i32_w]
              rfl
            refine take_ (i := 6) (N := some 62) (v := ?_) (a' := ?_) #[true, true, true, true, true, true, true, false, false, false, false, false, false] rfl rfl (by kernel_rfl) (fun _ _ _ h => h) (Or.inl ⟨by rfl, ?_⟩) hHeld ?_ ?_
            rotate_left
            · rintro w' ⟨s0, s1, s2⟩
              go_simp
              with_reducible rfl
            rotate_left
            · simp only [Act.put, List.setIfInBounds_toArray, List.set_cons_zero, List.set_cons_succ, i64_w, i32_w]
              rfl
            refine pure_ (i := 7) (N := some 63) (v := ?_) (a' := ?_) #[true, true, true, true, true, true, true, true, false, false, false, false, false] rfl rfl (by kernel_rfl) (fun _ _ _ h => h) (Or.inl ⟨by rfl, ?_⟩) ?_ ?_
            rotate_left
            · intro w'
              go_simp
              with_reducible rfl
            rotate_left
            · simp only [Act.put, List.setIfInBounds_toArray, List.set_cons_zero, List.set_cons_succ, i64_w, i32_w]
              rfl
            refine one_ (i := 8) (N := some 64) #[true, true, true, true, true, true, true, true, true, false, false, false, false] rfl rfl (by kernel_rfl) (by decide) (fun K hK => ?_)
            refine value_ (w1 := ?_) (v := ?_) (by rfl) rfl ?_ ?_
            rotate_left 2
            · go_simp
              constructor
              · rfl
              · rfl
            refine hK.out _ _ ⟨(World.cell?_alloc_lt _ _ _ (World.block_lt_of_cell? _ _ s0)).trans s0, (World.cell?_alloc_lt _ _ _ (World.block_lt_of_cell? _ _ s1)).trans s1, (World.cell?_alloc_lt _ _ _ (World.block_lt_of_cell? _ _ s2)).trans s2⟩ (fun hHeld => ?_)
            clear hK K
            refine norm_ (a' := ?_) ?_ ?_
            rotate_left
            · show Act.put _ (some 64) _ = _
              simp only [Act.put, List.setIfInBounds_toArray, List.set_cons_zero, List.set_cons_succ, i64_w, i32_w]
              rfl
            refine one_ (i := 9) (N := some 65) #[true, true, true, true, true, true, true, true, true, true, false, false, false] rfl rfl (by kernel_rfl) (by decide) (fun K hK => ?_)
            refine Kd.R_append_step kBx (w0 := w0) w0.heap.size (by rfl) (.tmp 60) (.tmp 64) 160 56 (.agg #[.string ⟨#[]⟩, .string ⟨#[]⟩, .string ⟨#[]⟩]) 48 rfl Tryz.underlying160 boxInfo rfl (by decide) (by omega) (.slice A5 bs.length c5) bs ⟨name, ⟨x, y⟩⟩ [.string name, .string x, .string y] (fun k => k ≠ r) (fun _ => False) rfl rfl ?aP (fun _ hk => hk.elim) ?aF ?aO ?aB ?aS ?aL ?_
            (case aP => exact k56_mkM _ _ _ ⟨name, ⟨x, y⟩⟩)
            (case aF => exact fun q hq => by (have h1 := hRY.lt; omega))
            (case aO => exact hRY.rr)
            (case aB => exact hRY.h)
            (case aS => exact hRY.h.size)
            (case aL => have := HLT.out; omega)
            intro v65 w13 ho hb hg hat
            rw [← HBS2.out] at ho
            obtain ⟨A6, c6, he6⟩ := Kd.R_slice ho
            subst he6
            obtain ⟨hw13, hRS⟩ := hRY.push ho hb hg hat
            have HRS := Lib.hid hRS
            have cw : w13.cell? ⟨r, 1, none⟩ = some (.slice A5 bs.length c5) := by simp [World.cell?, hw13]
            have fw : w13.frozen? ⟨r, 1, none⟩ = false := by simp [World.frozen?, hw13]
            have hg13 := (hg.block gb (Array.getElem?_eq_some_iff.1 hgY).1 hgl).trans hgY
            clear ho hb hg hat hw13 hRS
            refine hK.out _ _ ⟨cw, by simp [World.cell?, hg13], by simp [World.cell?, hg13]⟩ (fun hHeld => ?_)
            clear hK K
            refine norm_ (a' := ?_) ?_ ?_
            rotate_left
            · show Act.put _ (some 65) _ = _
              simp only [Act.put, List.setIfInBounds_toArray, List.set_cons_zero, List.set_cons_succ, i64_w, i32_w]
              rfl
            refine pure_ (i := 10) (N := some 66) (v := ?_) (a' := ?_) #[true, true, true, true, true, true, true, true, true, true, true, false, false] rfl rfl (by kernel_rfl) (fun _ _ _ h => h) (Or.inl ⟨by rfl, ?_⟩) ?_ ?_
            rotate_left
            · intro w'
              go_simp
              with_reducible rfl
            rotate_left
            · simp only [Act.put, List.setIfInBounds_toArray, List.set_cons_zero, List.set_cons_succ, i64_w, i32_w]
              rfl
            refine pure_ (i := 11) (N := some 67) (v := ?_) (a' := ?_) #[true, true, true, true, true, true, true, true, true, true, true, true, false] rfl rfl (by kernel_rfl) (fun _ _ _ h => h) (Or.inl ⟨by rfl, ?_⟩) ?_ ?_
            rotate_left
            · intro w'
              go_simp
              with_reducible rfl
            rotate_left
            · simp only [Act.put, List.setIfInBounds_toArray, List.set_cons_zero, List.set_cons_succ, i64_w, i32_w]
              rfl
            refine last_ (i := 12) (N := none) #[true, true, true, true, true, true, true, true, true, true, true, true, true] rfl rfl (by kernel_rfl) (by decide) (fun K hK => ?_)
            refine skip_ (w1 := w13.setCell ⟨r, 1, none⟩ (.slice A6 bs2.length c6)) (by rfl) rfl ?_ (hK.out _ _ ?_)
            · go_simp
            clear hK K
            refine done_ (by kernel_rfl) ?_
            try go_wp2
            go_ret
            exact ⟨rfl, HRS.out.toV.elim fun _ h => h.elim fun _ h => h.elim fun _ h => h.h, by rw [← HBS2.out]; exact HRS.out⟩
          · rw [if_neg hlt] at hF
            exact absurd hF (by simp)
      · have hF := HF.out
        rw [if_neg hz] at hF
        simp only [Option.some.injEq, Prod.mk.injEq] at hF
        obtain ⟨rfl, rfl, rfl⟩ := hF
        have hzb : (z == 0) = false := beq_eq_false_iff_ne.mpr hz
        have hzb2 : (z != 0) = true := bne_iff_ne.mpr hz
        have HZ := Aside0.mk hz
        clear hz HF
        go_wp2_with (first | (go_at_call 267; refine (addr_Of.calls k _ _ l1 x y z _ (Kd.C_below HT1.out HB.out) HT2.out HO.out (hG.below HB.out)).mono ?_; rintro e w2 ⟨rfl, hb⟩; have HB2 := Aside0.mk (below_step HB.out hb); clear hb; obtain ⟨A3, c3, vb3, hv3⟩ := (HR.out.below HB2.out).toV; have HV3 := Lib.hid hv3; have d0 := hv3.c0; have d1 := hv3.c1; have g0 := hv3.f0; have g1 := hv3.f1; obtain ⟨A4, c4, hrun4, hv4⟩ := hv3.cut n HNL.out; rw [← HL2.out] at hrun4 hv4; have HV4 := Lib.hid hv4; obtain ⟨A5, c5, he5⟩ := Kd.R_slice hv3.rr; subst he5; clear hv3 hv4) | ((with_reducible refine gate_dst (N := 6) rfl ?_); refine box_event ?hg (N := 6) ?hd (cs := #[.string (⟨#[]⟩ : ByteArray), .string (⟨#[]⟩ : ByteArray)]) (t := 54) ?hr ?_; (case hd => rfl); (case hg => rfl); (case hr => first | (go_simp; done) | (go_simp; rfl)); intro gb hg w9 hbox hb; have HB9 := Aside0.mk hb; have BK := Aside0.mk hbox; have GE := Aside0.mk (show w2.heap.size ≤ gb by omega); have hgr : r ≠ gb := (by have h1 := GE.out; have h2 := HV3.out.lt; omega); have hgr' : (r = gb) = False := eq_false hgr; have hrg' : (gb = r) = False := eq_false (fun h => hgr h.symm); replace d0 := (hb.cell (World.block_lt_of_cell? w2 _ d0)).trans d0; replace d1 := (hb.cell (World.block_lt_of_cell? w2 _ d1)).trans d1; replace g0 : w9.frozen? ⟨r, 0, none⟩ = false := (hb.frozen HV3.out.lt).trans g0; replace g1 : w9.frozen? ⟨r, 1, none⟩ = false := (hb.frozen HV3.out.lt).trans g1; clear hb hg hbox; have hcz0 : w9.cell? ⟨gb, 0, none⟩ = some (.string (⟨#[]⟩ : ByteArray)) := (blk_cell BK.out 0).trans rfl; have hcz1 : w9.cell? ⟨gb, 1, none⟩ = some (.string (⟨#[]⟩ : ByteArray)) := (blk_cell BK.out 1).trans rfl; have hfz0 := blk_frozen BK.out 0; have hfz1 := blk_frozen BK.out 1))
        go_ret
        exact ⟨rfl, (HV3.out.below (below_set (below_set HB9.out GE.out) GE.out)).h, fun h => absurd h HZ.out⟩
end Go.Proofs.YtjohcncekfcgpaaGreatDoor.P
end
section
set_option linter.unusedVariables false
namespace Go.Proofs.YtjohcncekfcgpaaGreatDoor.P
open Go.RowKit Go.Shelf Go.Proofs.YtjohcncekfcgpaaGreatDoorW.PrintWords Go.Proofs.YtjohcncekfcgpaaGreatDoorW.PrintLast
attribute [local go_sem high] eqA230
def sgn (b : UInt8) : ByteArray := ⟨#[b]⟩
def mailboxO (k : Nat) (l : List Tok) (bs : List Bx) : Option (Int × List Tok × List Bx) :=
  (strings_Join.f (wl l) ⟨#[32]⟩).bind fun name =>
    if followsP l (wl l).length ⟨#[60]⟩ = true then
      (addressO k (l.drop ((wl l).length + 1)) bs name).bind fun a =>
        if a.1 = 0 then (if atP a.2.1 ⟨#[62]⟩ = true then some (0, a.2.1.drop 1, a.2.2) else some (130, a.2.1, a.2.2)) else some a
    else addressO k l bs ⟨#[]⟩
def groupO (k : Nat) : Nat → List Tok → List Bx → Option (Int × List Tok × List Bx)
  | 0, _, _ => none
  | j + 1, l, bs =>
    if atP l ⟨#[59]⟩ = true then some (0, l.drop 1, bs) else
      (mailboxO k l bs).bind fun a =>
        if a.1 = 0 then
          (if atP a.2.1 ⟨#[59]⟩ = true then groupO k j a.2.1 a.2.2
           else if atP a.2.1 ⟨#[44]⟩ = true then (if atP (a.2.1.drop 1) ⟨#[59]⟩ = true then some (130, a.2.1.drop 1, a.2.2) else groupO k j (a.2.1.drop 1) a.2.2)
           else some (130, a.2.1, a.2.2))
        else some a
def itemO (k : Nat) (l : List Tok) (bs : List Bx) : Option (Int × List Tok × List Bx) :=
  (strings_Join.f (wl l) ⟨#[32]⟩).bind fun _ =>
    if (wl l).length = 0 then mailboxO k l bs
    else if followsP l (wl l).length ⟨#[58]⟩ = true then groupO k k (l.drop ((wl l).length + 1)) bs else mailboxO k l bs
theorem addressO_len {k : Nat} {l : List Tok} {bs : List Bx} {name : ByteArray} {e : Int} {l' : List Tok} {bs' : List Bx} (h : addressO k l bs name = some (e, l', bs')) : l'.length ≤ l.length := by
  obtain ⟨n, hn, h⟩ := Option.bind_eq_some_iff.mp h
  obtain ⟨a, ha, h⟩ := Option.bind_eq_some_iff.mp h
  split at h
  · split at h
    · simp at h; obtain ⟨_, rfl, _⟩ := h; simp
    · split at h
      · simp at h; obtain ⟨_, rfl, _⟩ := h; simp
      · simp at h
  · simp at h; obtain ⟨_, rfl, _⟩ := h; exact Nat.le_refl _
theorem mailboxO_len {k : Nat} {l : List Tok} {bs : List Bx} {e : Int} {l' : List Tok} {bs' : List Bx} (h : mailboxO k l bs = some (e, l', bs')) : l'.length ≤ l.length := by
  obtain ⟨n, hn, h⟩ := Option.bind_eq_some_iff.mp h
  split at h
  · obtain ⟨⟨e1, l1, b1⟩, ha, h⟩ := Option.bind_eq_some_iff.mp h
    have h1 := addressO_len ha
    simp only [List.length_drop] at h1
    split at h
    · split at h
      · simp at h; obtain ⟨_, rfl, _⟩ := h; simp; omega
      · simp at h; obtain ⟨_, rfl, _⟩ := h; omega
    · simp at h; obtain ⟨_, rfl, _⟩ := h; omega
  · exact addressO_len h
theorem follows_len {l : List Tok} {n : Nat} {s : ByteArray} (h : followsP l n s = true) : n + 1 ≤ l.length := by
  unfold followsP at h
  rcases Nat.lt_or_ge n l.length with h1 | h1
  · exact h1
  · rw [List.drop_of_length_le h1] at h; simp [atP] at h
theorem wrapN (n : Nat) (h : n < 9223372036854775807) : wrap64 ((n : Int) + 1) = ((n + 1 : Nat) : Int) := wrapI n h
set_option maxHeartbeats 8000000 in
set_option maxRecDepth 100000 in
theorem rMailbox (k : Nat) (w0 W : World) (r : Nat) (l : List Tok) (bs : List Bx) (h : RS w0 W r l bs) (hL : l.length < 8796093022208) (e0 : Int) (l' : List Tok) (bs' : List Bx) (hF : mailboxO k l bs = some (e0, l', bs')) (hGU : GU w0) :
    Calls Tryz.prog 228 #[.pointer (some ⟨r, 0, none⟩)] W fun e w' => e = .returned (.int .i64 e0) ∧ Below w0.heap.size w0 w' ∧ (e0 = 0 → RS w0 w' r l' bs') := by
  obtain ⟨name, hn, hF⟩ := Option.bind_eq_some_iff.mp hF
  have HW := Lib.hid (rWords w0 W r l bs name h hL hn)
  have HR := Lib.hid h
  have HL := Aside0.mk hL
  obtain ⟨n, hN⟩ : ∃ n, n = (wl l).length := ⟨_, rfl⟩
  rw [← hN] at HW hF
  have HN := Lib.hid hN
  clear h hL hn hN
  by_cases hf : followsP l n ⟨#[60]⟩ = true
  · rw [if_pos hf] at hF
    obtain ⟨⟨e1, l1, b1⟩, hA, hF⟩ := Option.bind_eq_some_iff.mp hF
    have hle := follows_len hf
    obtain ⟨l2, hl2⟩ : ∃ l2, l2 = l.drop (n + 1) := ⟨_, rfl⟩
    rw [← hl2] at hA
    have hlen2 : l2.length < 8796093022208 := by have := HL.out; rw [hl2, List.length_drop]; omega
    have hlen1 := addressO_len hA
    have HA := Lib.hid hA
    have HF := Lib.hid hF
    have HFO := Lib.hid hf
    have HLE := Aside0.mk hle
    have HL2 := Lib.hid hl2
    have HLN := Aside0.mk hlen2
    clear hA hF hf hle hl2 hlen2 hlen1
    by_cases hz : e1 = 0
    · subst hz
      have hF := HF.out
      clear HF
      simp only [if_true] at hF
      by_cases ht : atP l1 ⟨#[62]⟩ = true
      · rw [if_pos ht] at hF
        simp only [Option.some.injEq, Prod.mk.injEq] at hF
        obtain ⟨rfl, rfl, rfl⟩ := hF
        have HT := Lib.hid ht
        clear ht
        go_enter Tryz.func228, Tryz.ntmps228
        go_wp2_with (first | (go_at_call 226; refine HW.out.mono ?_; rintro e w1 ⟨rfl, hb⟩; have HR1 := Lib.hid (HR.out.below hb); clear hb) | (go_at_call 227; refine (rFollows w0 _ r l bs n _ HR1.out).mono ?_; rintro e w' ⟨rfl, rfl⟩; simp only [HFO.out]; obtain ⟨A3, c3, vb3, hv3⟩ := HR1.out.toV; have d0 := hv3.c0; have g0 := hv3.f0; obtain ⟨A4, c4, hrun4, hv4⟩ := hv3.cut (n + 1) HLE.out; rw [← HL2.out] at hrun4 hv4; have hr4 := hv4 _ (Below.refl _ _); have HR4 := Lib.hid hr4.toS; rw [← wrapN n (by have h1 := HL.out; have h2 := HLE.out; omega)] at hrun4; clear hv3 hv4 hr4) | (go_at_call 253; refine (rAddress k w0 _ r l2 bs _ HR4.out HLN.out _ _ _ HA.out hGU).mono ?_; rintro e w2 ⟨rfl, hb2, hp⟩; have HB2 := Aside0.mk hb2; have HP := Lib.hid hp; clear hb2 hp) | (go_at_call 190; refine (rTake w0 _ r l1 b1 _ (HP.out (by first | trivial | rfl))).mono ?_; rintro e w3 ⟨rfl, hr5⟩; simp only [HT.out]; simp only [HT.out, if_true, if_false, Bool.false_eq_true] at hr5; have HR5 := Lib.hid hr5; clear hr5))
        go_ret
        exact ⟨rfl, HR5.out.toV.elim fun _ h => h.elim fun _ h => h.elim fun _ h => h.h, by simpa using HR5.out⟩
      · rw [if_neg ht] at hF
        simp only [Option.some.injEq, Prod.mk.injEq] at hF
        obtain ⟨rfl, rfl, rfl⟩ := hF
        have ht' : atP l1 ⟨#[62]⟩ = false := by simpa using ht
        have HT := Lib.hid ht'
        clear ht ht'
        go_enter Tryz.func228, Tryz.ntmps228
        go_wp2_with (first | (go_at_call 226; refine HW.out.mono ?_; rintro e w1 ⟨rfl, hb⟩; have HR1 := Lib.hid (HR.out.below hb); clear hb) | (go_at_call 227; refine (rFollows w0 _ r l bs n _ HR1.out).mono ?_; rintro e w' ⟨rfl, rfl⟩; simp only [HFO.out]; obtain ⟨A3, c3, vb3, hv3⟩ := HR1.out.toV; have d0 := hv3.c0; have g0 := hv3.f0; obtain ⟨A4, c4, hrun4, hv4⟩ := hv3.cut (n + 1) HLE.out; rw [← HL2.out] at hrun4 hv4; have hr4 := hv4 _ (Below.refl _ _); have HR4 := Lib.hid hr4.toS; rw [← wrapN n (by have h1 := HL.out; have h2 := HLE.out; omega)] at hrun4; clear hv3 hv4 hr4) | (go_at_call 253; refine (rAddress k w0 _ r l2 bs _ HR4.out HLN.out _ _ _ HA.out hGU).mono ?_; rintro e w2 ⟨rfl, hb2, hp⟩; have HB2 := Aside0.mk hb2; have HP := Lib.hid hp; clear hb2 hp) | (go_at_call 190; refine (rTake w0 _ r l1 b1 _ (HP.out (by first | trivial | rfl))).mono ?_; rintro e w3 ⟨rfl, hr5⟩; simp only [HT.out]; simp only [HT.out, if_true, if_false, Bool.false_eq_true] at hr5; have HR5 := Lib.hid hr5; clear hr5))
        go_ret
        exact ⟨rfl, HR5.out.toV.elim fun _ h => h.elim fun _ h => h.elim fun _ h => h.h, fun h => absurd h (by decide)⟩
    · have hF := HF.out
      simp only [if_neg hz, Option.some.injEq, Prod.mk.injEq] at hF
      obtain ⟨rfl, rfl, rfl⟩ := hF
      have hzb : (e1 == 0) = false := beq_eq_false_iff_ne.mpr hz
      have hzb2 : (e1 != 0) = true := bne_iff_ne.mpr hz
      have HZ := Aside0.mk hz
      clear hz HF
      go_enter Tryz.func228, Tryz.ntmps228
      go_wp2_with (first | (go_at_call 226; refine HW.out.mono ?_; rintro e w1 ⟨rfl, hb⟩; have HR1 := Lib.hid (HR.out.below hb); clear hb) | (go_at_call 227; refine (rFollows w0 _ r l bs n _ HR1.out).mono ?_; rintro e w' ⟨rfl, rfl⟩; simp only [HFO.out]; obtain ⟨A3, c3, vb3, hv3⟩ := HR1.out.toV; have d0 := hv3.c0; have g0 := hv3.f0; obtain ⟨A4, c4, hrun4, hv4⟩ := hv3.cut (n + 1) HLE.out; rw [← HL2.out] at hrun4 hv4; have hr4 := hv4 _ (Below.refl _ _); have HR4 := Lib.hid hr4.toS; rw [← wrapN n (by have h1 := HL.out; have h2 := HLE.out; omega)] at hrun4; clear hv3 hv4 hr4) | (go_at_call 253; refine (rAddress k w0 _ r l2 bs _ HR4.out HLN.out _ _ _ HA.out hGU).mono ?_; rintro e w2 ⟨rfl, hb2, hp⟩; have HB2 := Aside0.mk hb2; have HP := Lib.hid hp; clear hb2 hp))
      go_ret
      exact ⟨rfl, HB2.out, fun h => absurd h HZ.out⟩
  · have hf' : followsP l n ⟨#[60]⟩ = false := by simpa using hf
    rw [if_neg hf] at hF
    have HF := Lib.hid hF
    have HFO := Lib.hid hf'
    clear hf hF hf'
    go_enter Tryz.func228, Tryz.ntmps228
    go_wp2_with (first | (go_at_call 226; refine HW.out.mono ?_; rintro e w1 ⟨rfl, hb⟩; have HR1 := Lib.hid (HR.out.below hb); clear hb) | (go_at_call 227; refine (rFollows w0 _ r l bs n _ HR1.out).mono ?_; rintro e w' ⟨rfl, rfl⟩; simp only [HFO.out]) | (go_at_call 253; refine (rAddress k w0 _ r l bs _ HR1.out HL.out _ _ _ HF.out hGU).mono ?_; rintro e w2 ⟨rfl, hb2, hp⟩; have HB2 := Aside0.mk hb2; have HP := Lib.hid hp; clear hb2 hp))
    go_ret
    exact ⟨rfl, HB2.out, HP.out⟩
set_option maxHeartbeats 8000000 in
set_option maxRecDepth 100000 in
theorem rGroup (k j : Nat) (w0 W : World) (r : Nat) (l : List Tok) (bs : List Bx) (h : RS w0 W r l bs) (hL : l.length < 8796093022208) (e0 : Int) (l' : List Tok) (bs' : List Bx) (hF : groupO k j l bs = some (e0, l', bs')) (hGU : GU w0) :
    Calls Tryz.prog 229 #[.pointer (some ⟨r, 0, none⟩)] W fun e w' => e = .returned (.int .i64 e0) ∧ Below w0.heap.size w0 w' ∧ (e0 = 0 → RS w0 w' r l' bs') := by
  have HR := Lib.hid h
  have HL := Aside0.mk hL
  have HF := Aside0.mk hF
  clear h hL hF
  go_enter Tryz.func229, Tryz.ntmps229
  go_wp2
  go_loopg [] j (fun kq w' => ∃ (l1 : List Tok) (b1 : List Bx), Aside0 (groupO k kq l1 b1 = some (e0, l', bs')) ∧ Aside0 (l1.length < 8796093022208) ∧ Aside0 (RS w0 w' r l1 b1))
  case atStart => exact ⟨l, bs, HF, HL, ⟨HR.out⟩⟩
  case round =>
    clear HF HL HR
    obtain ⟨l1, b1, HF, HL, HR⟩ := hrel
    cases gk with
    | zero => exact absurd HF.out (by simp [groupO])
    | succ j1 =>
      have hF := HF.out
      clear HF
      simp only [groupO] at hF
      by_cases h1 : atP l1 ⟨#[59]⟩ = true
      · rw [if_pos h1] at hF
        simp only [Option.some.injEq, Prod.mk.injEq] at hF
        obtain ⟨rfl, rfl, rfl⟩ := hF
        have H1 := Lib.hid h1
        clear h1
        go_wp2_with (first | (go_at_call 190; refine (rTake w0 _ r l1 b1 _ HR.out).mono ?_; rintro e wt ⟨rfl, hr5⟩; simp only [H1.out]; simp only [H1.out, if_true, if_false, Bool.false_eq_true] at hr5; have R1 := Lib.hid hr5; clear hr5))
        go_ret
        exact ⟨rfl, R1.out.toV.elim fun _ h => h.elim fun _ h => h.elim fun _ h => h.h, by simpa using R1.out⟩
      · rw [if_neg h1] at hF
        have h1' : atP l1 ⟨#[59]⟩ = false := by simpa using h1
        have H1 := Lib.hid h1'
        clear h1 h1'
        obtain ⟨⟨e2, l2, b2⟩, hM, hF⟩ := Option.bind_eq_some_iff.mp hF
        have hlen2 := mailboxO_len hM
        have HL2 : Aside0 (l2.length < 8796093022208) := ⟨by have := HL.out; omega⟩
        have HM := Lib.hid hM
        clear hM hlen2
        by_cases hz : e2 = 0
        · subst hz
          simp only [if_true] at hF
          by_cases h2 : atP l2 ⟨#[59]⟩ = true
          · rw [if_pos h2] at hF
            have H2 := Lib.hid h2
            have HF := Aside0.mk hF
            clear h2 hF
            go_wp2_with (first | (go_at_call 190; refine (rTake w0 _ r l1 b1 _ HR.out).mono ?_; rintro e wt ⟨rfl, hr5⟩; simp only [H1.out]; simp only [H1.out, if_true, if_false, Bool.false_eq_true] at hr5; have R1 := Lib.hid hr5; clear hr5) | (go_at_call 228; refine (rMailbox k w0 _ r l1 b1 R1.out HL.out _ _ _ HM.out hGU).mono ?_; rintro e wm ⟨rfl, hb2, hp⟩; have HB2 := Aside0.mk hb2; have HP := Lib.hid hp; clear hb2 hp) | (go_at_call 230; refine (rAt w0 _ r l2 b2 _ (HP.out (by first | trivial | rfl))).mono ?_; rintro e wt ⟨rfl, rfl⟩; simp only [H2.out]))
            go_roundg j1
            case measure => omega
            case rel => exact ⟨l2, b2, HF, HL2, ⟨HP.out (by trivial)⟩⟩
          · rw [if_neg h2] at hF
            have h2' : atP l2 ⟨#[59]⟩ = false := by simpa using h2
            have H2 := Lib.hid h2'
            clear h2 h2'
            by_cases h3 : atP l2 ⟨#[44]⟩ = true
            · rw [if_pos h3] at hF
              have H3 := Lib.hid h3
              clear h3
              obtain ⟨l3, hl3⟩ : ∃ l3, l3 = l2.drop 1 := ⟨_, rfl⟩
              rw [← hl3] at hF
              have HL3 := Lib.hid hl3
              have HLN3 : Aside0 (l3.length < 8796093022208) := ⟨by have := HL2.out; rw [hl3, List.length_drop]; omega⟩
              clear hl3
              by_cases h4 : atP l3 ⟨#[59]⟩ = true
              · rw [if_pos h4] at hF
                simp only [Option.some.injEq, Prod.mk.injEq] at hF
                obtain ⟨rfl, rfl, rfl⟩ := hF
                have H4 := Lib.hid h4
                clear h4
                go_wp2_with (first | (go_at_call 190; refine (rTake w0 _ r l1 b1 _ HR.out).mono ?_; rintro e wt ⟨rfl, hr5⟩; simp only [H1.out]; simp only [H1.out, if_true, if_false, Bool.false_eq_true] at hr5; have R1 := Lib.hid hr5; clear hr5) | (go_at_call 228; refine (rMailbox k w0 _ r l1 b1 R1.out HL.out _ _ _ HM.out hGU).mono ?_; rintro e wm ⟨rfl, hb2, hp⟩; have HB2 := Aside0.mk hb2; have HP := Lib.hid hp; clear hb2 hp) | (go_at_call 230; refine (rAt w0 _ r l2 b2 _ (HP.out (by first | trivial | rfl))).mono ?_; rintro e wt ⟨rfl, rfl⟩; simp only [H2.out]) | (go_at_call 190; refine (rTake w0 _ r l2 b2 _ (HP.out (by first | trivial | rfl))).mono ?_; rintro e wt3 ⟨rfl, hr5⟩; simp only [H3.out]; simp only [H3.out, if_true] at hr5; rw [← HL3.out] at hr5; have R3 := Lib.hid hr5; clear hr5) | (go_at_call 230; refine (rAt w0 _ r l3 b2 _ R3.out).mono ?_; rintro e wt ⟨rfl, rfl⟩; simp only [H4.out]))
                go_ret
                exact ⟨rfl, R3.out.toV.elim fun _ h => h.elim fun _ h => h.elim fun _ h => h.h, fun h => absurd h (by decide)⟩
              · rw [if_neg h4] at hF
                have h4' : atP l3 ⟨#[59]⟩ = false := by simpa using h4
                have H4 := Lib.hid h4'
                have HF := Aside0.mk hF
                clear h4 h4' hF
                go_wp2_with (first | (go_at_call 190; refine (rTake w0 _ r l1 b1 _ HR.out).mono ?_; rintro e wt ⟨rfl, hr5⟩; simp only [H1.out]; simp only [H1.out, if_true, if_false, Bool.false_eq_true] at hr5; have R1 := Lib.hid hr5; clear hr5) | (go_at_call 228; refine (rMailbox k w0 _ r l1 b1 R1.out HL.out _ _ _ HM.out hGU).mono ?_; rintro e wm ⟨rfl, hb2, hp⟩; have HB2 := Aside0.mk hb2; have HP := Lib.hid hp; clear hb2 hp) | (go_at_call 230; refine (rAt w0 _ r l2 b2 _ (HP.out (by first | trivial | rfl))).mono ?_; rintro e wt ⟨rfl, rfl⟩; simp only [H2.out]) | (go_at_call 190; refine (rTake w0 _ r l2 b2 _ (HP.out (by first | trivial | rfl))).mono ?_; rintro e wt3 ⟨rfl, hr5⟩; simp only [H3.out]; simp only [H3.out, if_true] at hr5; rw [← HL3.out] at hr5; have R3 := Lib.hid hr5; clear hr5) | (go_at_call 230; refine (rAt w0 _ r l3 b2 _ R3.out).mono ?_; rintro e wt ⟨rfl, rfl⟩; simp only [H4.out]))
                go_roundg j1
                case measure => omega
                case rel => exact ⟨l3, b2, HF, HLN3, ⟨R3.out⟩⟩
            · rw [if_neg h3] at hF
              have h3' : atP l2 ⟨#[44]⟩ = false := by simpa using h3
              simp only [Option.some.injEq, Prod.mk.injEq] at hF
              obtain ⟨rfl, rfl, rfl⟩ := hF
              have H3 := Lib.hid h3'
              clear h3 h3'
              go_wp2_with (first | (go_at_call 190; refine (rTake w0 _ r l1 b1 _ HR.out).mono ?_; rintro e wt ⟨rfl, hr5⟩; simp only [H1.out]; simp only [H1.out, if_true, if_false, Bool.false_eq_true] at hr5; have R1 := Lib.hid hr5; clear hr5) | (go_at_call 228; refine (rMailbox k w0 _ r l1 b1 R1.out HL.out _ _ _ HM.out hGU).mono ?_; rintro e wm ⟨rfl, hb2, hp⟩; have HB2 := Aside0.mk hb2; have HP := Lib.hid hp; clear hb2 hp) | (go_at_call 230; refine (rAt w0 _ r l2 b2 _ (HP.out (by first | trivial | rfl))).mono ?_; rintro e wt ⟨rfl, rfl⟩; simp only [H2.out]) | (go_at_call 190; refine (rTake w0 _ r l2 b2 _ (HP.out (by first | trivial | rfl))).mono ?_; rintro e wt ⟨rfl, hr5⟩; simp only [H3.out]; simp only [H3.out, if_true, if_false, Bool.false_eq_true] at hr5; have R3 := Lib.hid hr5; clear hr5))
              go_ret
              exact ⟨rfl, R3.out.toV.elim fun _ h => h.elim fun _ h => h.elim fun _ h => h.h, fun h => absurd h (by decide)⟩
        · simp only [if_neg hz, Option.some.injEq, Prod.mk.injEq] at hF
          obtain ⟨rfl, rfl, rfl⟩ := hF
          have hzb : (e2 == 0) = false := beq_eq_false_iff_ne.mpr hz
          have hzb2 : (e2 != 0) = true := bne_iff_ne.mpr hz
          have HZ := Aside0.mk hz
          clear hz
          go_wp2_with (first | (go_at_call 190; refine (rTake w0 _ r l1 b1 _ HR.out).mono ?_; rintro e wt ⟨rfl, hr5⟩; simp only [H1.out]; simp only [H1.out, if_true, if_false, Bool.false_eq_true] at hr5; have R1 := Lib.hid hr5; clear hr5) | (go_at_call 228; refine (rMailbox k w0 _ r l1 b1 R1.out HL.out _ _ _ HM.out hGU).mono ?_; rintro e wm ⟨rfl, hb2, hp⟩; have HB2 := Aside0.mk hb2; have HP := Lib.hid hp; clear hb2 hp))
          go_ret
          exact ⟨rfl, HB2.out, fun h => absurd h HZ.out⟩
set_option maxHeartbeats 8000000 in
set_option maxRecDepth 100000 in
theorem rItem (k : Nat) (w0 W : World) (r : Nat) (l : List Tok) (bs : List Bx) (h : RS w0 W r l bs) (hL : l.length < 8796093022208) (e0 : Int) (l' : List Tok) (bs' : List Bx) (hF : itemO k l bs = some (e0, l', bs')) (hGU : GU w0) :
    Calls Tryz.prog 189 #[.pointer (some ⟨r, 0, none⟩)] W fun e w' => e = .returned (.int .i64 e0) ∧ Below w0.heap.size w0 w' ∧ (e0 = 0 → RS w0 w' r l' bs') := by
  obtain ⟨name, hn, hF⟩ := Option.bind_eq_some_iff.mp hF
  have HW := Lib.hid (rWords w0 W r l bs name h hL hn)
  have HR := Lib.hid h
  have HL := Aside0.mk hL
  obtain ⟨n, hN⟩ : ∃ n, n = (wl l).length := ⟨_, rfl⟩
  rw [← hN] at HW hF
  have HN := Lib.hid hN
  clear h hL hn hN
  by_cases h0 : n = 0
  · rw [if_pos h0] at hF
    have HF := Lib.hid hF
    have h0b : ((n : Int) == 0) = true := by rw [h0]; rfl
    have h0c : (n = 0) = True := eq_true h0
    subst h0
    clear hF
    go_enter Tryz.func189, Tryz.ntmps189
    go_wp2_with (first | (go_at_call 226; refine HW.out.mono ?_; rintro e w1 ⟨rfl, hb⟩; have HR1 := Lib.hid (HR.out.below hb); clear hb) | (go_at_call 228; refine (rMailbox k w0 _ r l bs HR1.out HL.out _ _ _ HF.out hGU).mono ?_; rintro e wm ⟨rfl, hb2, hp⟩; have HB2 := Aside0.mk hb2; have HP := Lib.hid hp; clear hb2 hp))
    go_ret
    exact ⟨rfl, HB2.out, HP.out⟩
  · rw [if_neg h0] at hF
    have h0b : ((n : Int) == 0) = false := by simp; exact h0
    have h0c : (n = 0) = False := eq_false h0
    by_cases hf : followsP l n ⟨#[58]⟩ = true
    · rw [if_pos hf] at hF
      have hle := follows_len hf
      obtain ⟨l2, hl2⟩ : ∃ l2, l2 = l.drop (n + 1) := ⟨_, rfl⟩
      rw [← hl2] at hF
      have hlen2 : l2.length < 8796093022208 := by have := HL.out; rw [hl2, List.length_drop]; omega
      have HF := Lib.hid hF
      have HFO := Lib.hid hf
      have HLE := Aside0.mk hle
      have HL2 := Lib.hid hl2
      have HLN := Aside0.mk hlen2
      clear hF hf hle hl2 hlen2
      go_enter Tryz.func189, Tryz.ntmps189
      go_wp2_with (first | (go_at_call 226; refine HW.out.mono ?_; rintro e w1 ⟨rfl, hb⟩; have HR1 := Lib.hid (HR.out.below hb); clear hb) | (go_at_call 227; refine (rFollows w0 _ r l bs n _ HR1.out).mono ?_; rintro e w' ⟨rfl, rfl⟩; simp only [HFO.out]; obtain ⟨A3, c3, vb3, hv3⟩ := HR1.out.toV; have d0 := hv3.c0; have g0 := hv3.f0; obtain ⟨A4, c4, hrun4, hv4⟩ := hv3.cut (n + 1) HLE.out; rw [← HL2.out] at hrun4 hv4; have hr4 := hv4 _ (Below.refl _ _); have HR4 := Lib.hid hr4.toS; rw [← wrapN n (by have h1 := HL.out; have h2 := HLE.out; omega)] at hrun4; clear hv3 hv4 hr4) | (go_at_call 229; refine (rGroup k k w0 _ r l2 bs HR4.out HLN.out _ _ _ HF.out hGU).mono ?_; rintro e wm ⟨rfl, hb2, hp⟩; have HB2 := Aside0.mk hb2; have HP := Lib.hid hp; clear hb2 hp))
      go_ret
      exact ⟨rfl, HB2.out, HP.out⟩
    · have hf' : followsP l n ⟨#[58]⟩ = false := by simpa using hf
      rw [if_neg hf] at hF
      have HF := Lib.hid hF
      have HFO := Lib.hid hf'
      clear hf hF hf'
      go_enter Tryz.func189, Tryz.ntmps189
      go_wp2_with (first | (go_at_call 226; refine HW.out.mono ?_; rintro e w1 ⟨rfl, hb⟩; have HR1 := Lib.hid (HR.out.below hb); clear hb) | (go_at_call 227; refine (rFollows w0 _ r l bs n _ HR1.out).mono ?_; rintro e w' ⟨rfl, rfl⟩; simp only [HFO.out]) | (go_at_call 228; refine (rMailbox k w0 _ r l bs HR1.out HL.out _ _ _ HF.out hGU).mono ?_; rintro e wm ⟨rfl, hb2, hp⟩; have HB2 := Aside0.mk hb2; have HP := Lib.hid hp; clear hb2 hp))
      go_ret
      exact ⟨rfl, HB2.out, HP.out⟩
end Go.Proofs.YtjohcncekfcgpaaGreatDoor.P
end
section
set_option linter.unusedVariables false
namespace Go.Proofs.YtjohcncekfcgpaaGreatDoor.P
open Go.RowKit Go.Shelf Go.Proofs.YtjohcncekfcgpaaGreatDoorW.PrintWords Go.Proofs.YtjohcncekfcgpaaGreatDoorW.PrintLast
def readL (k : Nat) : Nat → List Tok → List Bx → Option (List Bx × Int)
  | 0, _, _ => none
  | j + 1, l, bs =>
    (itemO k l bs).bind fun a =>
      if a.1 = 0 then
        (if a.2.1.length = 0 then some (a.2.2, 0)
         else if atP a.2.1 ⟨#[44]⟩ = true then readL k j (a.2.1.drop 1) a.2.2 else some ([], 130))
      else some ([], a.1)
def mbx_Read.f (k : Nat) (a0 : ByteArray) : Option ((List Bx) × Int) :=
  (lex_Scan.f k a0).bind fun s => if s.2 = 0 then (if s.1.length < 8796093022208 then readL k k s.1 [] else none) else some ([], s.2)
theorem addressO_mono (k : Nat) (l : List Tok) (bs : List Bx) (n : ByteArray) : LeO (addressO k l bs n) (addressO (k + 1) l bs n) := by
  unfold addressO
  exact LeO.bind (LeO.refl _) fun _ => LeO.bind (addr_Of.mono _ _) fun _ => LeO.refl _
theorem mailboxO_mono (k : Nat) (l : List Tok) (bs : List Bx) : LeO (mailboxO k l bs) (mailboxO (k + 1) l bs) := by
  unfold mailboxO
  exact LeO.bind (LeO.refl _) fun _ => LeO.ite (LeO.bind (addressO_mono _ _ _ _) fun _ => LeO.refl _) (addressO_mono _ _ _ _)
theorem groupO_mono (k : Nat) : ∀ (j : Nat) (l : List Tok) (bs : List Bx), LeO (groupO k j l bs) (groupO (k + 1) (j + 1) l bs)
  | 0, l, bs => by intro r h; simp [groupO] at h
  | j + 1, l, bs => by
    have ih := groupO_mono k j
    unfold groupO
    exact LeO.ite (LeO.refl _) (LeO.bind (mailboxO_mono _ _ _) fun _ => LeO.ite (LeO.ite (ih _ _) (LeO.ite (LeO.ite (LeO.refl _) (ih _ _)) (LeO.refl _))) (LeO.refl _))
theorem itemO_mono (k : Nat) (l : List Tok) (bs : List Bx) : LeO (itemO k l bs) (itemO (k + 1) l bs) := by
  unfold itemO
  exact LeO.bind (LeO.refl _) fun _ => LeO.ite (mailboxO_mono _ _ _) (LeO.ite (groupO_mono _ _ _ _) (mailboxO_mono _ _ _))
theorem readL_mono (k : Nat) : ∀ (j : Nat) (l : List Tok) (bs : List Bx), LeO (readL k j l bs) (readL (k + 1) (j + 1) l bs)
  | 0, l, bs => by intro r h; simp [readL] at h
  | j + 1, l, bs => by
    have ih := readL_mono k j
    unfold readL
    exact LeO.bind (itemO_mono _ _ _) fun _ => LeO.ite (LeO.ite (LeO.refl _) (LeO.ite (ih _ _) (LeO.refl _))) (LeO.refl _)
theorem mbx_Read.mono : ∀ a0 k, LeO (mbx_Read.f k a0) (mbx_Read.f (k + 1) a0) := by
  intro a0 k
  unfold mbx_Read.f
  exact LeO.bind (lex_Scan.mono _ _) fun _ => LeO.ite (LeO.ite (readL_mono _ _ _ _) (LeO.refl _)) (LeO.refl _)
theorem groupO_len {k : Nat} : ∀ {j : Nat} {l : List Tok} {bs : List Bx} {e : Int} {l' : List Tok} {bs' : List Bx}, groupO k j l bs = some (e, l', bs') → l'.length ≤ l.length
  | 0, _, _, _, _, _, h => by simp [groupO] at h
  | j + 1, l, bs, e, l', bs', h => by
    simp only [groupO] at h
    split at h
    · simp at h; obtain ⟨_, rfl, _⟩ := h; simp
    · obtain ⟨⟨e1, l1, b1⟩, ha, h⟩ := Option.bind_eq_some_iff.mp h
      have h1 := mailboxO_len ha
      simp only at h
      split at h
      · split at h
        · have := groupO_len h; omega
        · split at h
          · split at h
            · simp at h; obtain ⟨_, rfl, _⟩ := h; simp; omega
            · have := groupO_len h; simp only [List.length_drop] at this; omega
          · simp at h; obtain ⟨_, rfl, _⟩ := h; omega
      · simp at h; obtain ⟨_, rfl, _⟩ := h; omega
theorem itemO_len {k : Nat} {l : List Tok} {bs : List Bx} {e : Int} {l' : List Tok} {bs' : List Bx} (h : itemO k l bs = some (e, l', bs')) : l'.length ≤ l.length := by
  obtain ⟨n, hn, h⟩ := Option.bind_eq_some_iff.mp h
  split at h
  · exact mailboxO_len h
  · split at h
    · have := groupO_len h; simp only [List.length_drop] at this; omega
    · exact mailboxO_len h
set_option maxHeartbeats 8000000 in
set_option maxRecDepth 100000 in
theorem mbx_Read.calls (k : Nat) (a0 : ByteArray) (r1 : List Bx) (r2 : Int) (w : World) (h : mbx_Read.f k a0 = some (r1, r2)) (hGU : GU w := by exact gUT) :
    Calls Tryz.prog 134 #[.string a0] w fun e w' => ∃ v0_ : Value, e = .returned (.tuple #[v0_, .int .i64 r2]) ∧ Kd.R kBx 56 w' w.heap.size (fun _ => True) v0_ r1 ∧ Below w.heap.size w w' := by
  obtain ⟨⟨l, z⟩, hS, hF⟩ := Option.bind_eq_some_iff.mp h
  clear h
  have hu := Tryz.underlying208
  have HS := Lib.hid hS
  clear hS
  by_cases hz : z = 0
  · subst hz
    simp only [if_true] at hF
    by_cases hL : l.length < 8796093022208
    · rw [if_pos hL] at hF
      have HF := Aside0.mk hF
      have HL := Aside0.mk hL
      clear hF hL
      go_enter Tryz.func134, Tryz.ntmps134
      go_wp2_with (go_at_call 188; refine (lex_Scan.calls k a0 l 0 _ HS.out).mono ?_; rintro e w1 ⟨v0, rfl, ho, hb⟩; obtain ⟨Al, cl, hel⟩ := Kd.R_slice ho; subst hel; have HO := Lib.hid ho; have HB := Aside0.mk hb; clear ho hb)
      obtain ⟨W2, hW2⟩ : ∃ W2, W2 = w1.alloc (.cells #[.slice Al l.length cl, .slice none 0 0] 208) := ⟨_, rfl⟩
      obtain ⟨r, hr⟩ : ∃ r, r = w1.heap.size := ⟨_, rfl⟩
      have hRS : RS w W2 r l [] := by
        refine ⟨.slice Al l.length cl, .slice none 0 0, ?_, ?_, Kd.R_nil _ _ _ _ _, ?_, ?_⟩
        · rw [hW2, hr]; exact heap_alloc_new w1 _
        · have h1 := Kd.V_bound (Kd.R_V (base' := 0) HO.out)
          rw [hW2]
          refine Kd.V_alloc (Kd.V_mono h1 (fun k hk => ⟨by rw [hr]; exact Nat.ne_of_lt hk.2, by simp [Value.ownBlock]⟩)) _
        · rw [hW2]; exact below_alloc HB.out _
        · rw [hr]; exact HB.out.size
      have HR := Lib.hid hRS
      simp only [← hW2, ← hr]
      clear hRS hW2 hr HO HS HB
      go_wp2
      go_loopg [] k (fun kq w' => ∃ (l1 : List Tok) (b1 : List Bx), Aside0 (readL k kq l1 b1 = some (r1, r2)) ∧ Aside0 (l1.length < 8796093022208) ∧ Aside0 (RS w w' r l1 b1))
      case atStart => exact ⟨l, [], HF, HL, ⟨HR.out⟩⟩
      case round =>
        clear HF HL HR
        obtain ⟨l1, b1, HF, HL, HR⟩ := hrel
        cases gk with
        | zero => exact absurd HF.out (by simp [readL])
        | succ j1 =>
          have hF := HF.out
          clear HF
          simp only [readL] at hF
          obtain ⟨⟨e2, l2, b2⟩, hM, hF⟩ := Option.bind_eq_some_iff.mp hF
          have hlen2 := itemO_len hM
          have HL2 : Aside0 (l2.length < 8796093022208) := ⟨by have := HL.out; omega⟩
          have HM := Lib.hid hM
          clear hM hlen2
          by_cases hz : e2 = 0
          · subst hz
            simp only [if_true] at hF
            by_cases h0 : l2.length = 0
            · rw [if_pos h0] at hF
              simp only [Option.some.injEq, Prod.mk.injEq] at hF
              obtain ⟨rfl, rfl⟩ := hF
              have q0 : ((l2.length : Int) == 0) = true := by rw [h0]; rfl
              have q1 : (l2.length = 0) = True := eq_true h0
              have q2 : (l2 = []) = True := eq_true (List.length_eq_zero_iff.mp h0)
              clear h0
              go_wp2_with (first | (go_at_call 189; refine (rItem k w _ r l1 b1 HR.out HL.out _ _ _ HM.out hGU).mono ?_; rintro e wm ⟨rfl, hb2, hp⟩; have HB2 := Aside0.mk hb2; have HP := Lib.hid (hp (by first | trivial | rfl)); obtain ⟨A3, c3, vb3, hv3⟩ := HP.out.toV; have HV := Lib.hid hv3; have d0 := hv3.c0; have d1 := hv3.c1; have g0 := hv3.f0; clear hb2 hp hv3))
              go_ret2
              exact ⟨_, rfl, Kd.R_mono HV.out.rr (fun _ _ => trivial), HV.out.h⟩
            · rw [if_neg h0] at hF
              have q0 : ((l2.length : Int) == 0) = false := by simp; intro h; exact h0 (by rw [h]; rfl)
              have q1 : (l2.length = 0) = False := eq_false h0
              have q2 : (l2 = []) = False := eq_false (fun h => h0 (by rw [h]; rfl))
              clear h0
              by_cases h3 : atP l2 ⟨#[44]⟩ = true
              · rw [if_pos h3] at hF
                have H3 := Lib.hid h3
                have HF := Aside0.mk hF
                clear h3 hF
                go_wp2_with (first | (go_at_call 189; refine (rItem k w _ r l1 b1 HR.out HL.out _ _ _ HM.out hGU).mono ?_; rintro e wm ⟨rfl, hb2, hp⟩; have HB2 := Aside0.mk hb2; have HP := Lib.hid (hp (by first | trivial | rfl)); obtain ⟨A3, c3, vb3, hv3⟩ := HP.out.toV; have HV := Lib.hid hv3; have d0 := hv3.c0; have d1 := hv3.c1; have g0 := hv3.f0; clear hb2 hp hv3) | (go_at_call 190; refine (rTake w _ r l2 b2 _ HP.out).mono ?_; rintro e wt ⟨rfl, hr5⟩; simp only [H3.out]; simp only [H3.out, if_true, if_false, Bool.false_eq_true] at hr5; have R3 := Lib.hid hr5; clear hr5))
                go_roundg j1
                case measure => omega
                case rel => exact ⟨l2.drop 1, b2, HF, ⟨by have := HL2.out; rw [List.length_drop]; omega⟩, ⟨by simpa using R3.out⟩⟩
              · rw [if_neg h3] at hF
                simp only [Option.some.injEq, Prod.mk.injEq] at hF
                obtain ⟨rfl, rfl⟩ := hF
                have h3' : atP l2 ⟨#[44]⟩ = false := by simpa using h3
                have H3 := Lib.hid h3'
                clear h3 h3'
                go_wp2_with (first | (go_at_call 189; refine (rItem k w _ r l1 b1 HR.out HL.out _ _ _ HM.out hGU).mono ?_; rintro e wm ⟨rfl, hb2, hp⟩; have HB2 := Aside0.mk hb2; have HP := Lib.hid (hp (by first | trivial | rfl)); obtain ⟨A3, c3, vb3, hv3⟩ := HP.out.toV; have HV := Lib.hid hv3; have d0 := hv3.c0; have d1 := hv3.c1; have g0 := hv3.f0; clear hb2 hp hv3) | (go_at_call 190; refine (rTake w _ r l2 b2 _ HP.out).mono ?_; rintro e wt ⟨rfl, hr5⟩; simp only [H3.out]; simp only [H3.out, if_true, if_false, Bool.false_eq_true] at hr5; have R3 := Lib.hid hr5; clear hr5))
                go_ret2
                exact ⟨_, rfl, Kd.R_nil _ _ _ _ _, R3.out.toV.elim fun _ h => h.elim fun _ h => h.elim fun _ h => h.h⟩
          · simp only [if_neg hz, Option.some.injEq, Prod.mk.injEq] at hF
            obtain ⟨rfl, rfl⟩ := hF
            have hzb : (e2 == 0) = false := beq_eq_false_iff_ne.mpr hz
            have hzb2 : (e2 != 0) = true := bne_iff_ne.mpr hz
            have HZ := Aside0.mk hz
            clear hz
            go_wp2_with (first | (go_at_call 189; refine (rItem k w _ r l1 b1 HR.out HL.out _ _ _ HM.out hGU).mono ?_; rintro e wm ⟨rfl, hb2, hp⟩; have HB2 := Aside0.mk hb2; have HP := Lib.hid hp; clear hb2 hp))
            go_ret2
            exact ⟨_, rfl, Kd.R_nil _ _ _ _ _, HB2.out⟩
    · rw [if_neg hL] at hF
      exact absurd hF (by simp)
  · simp only [if_neg hz, Option.some.injEq, Prod.mk.injEq] at hF
    obtain ⟨rfl, rfl⟩ := hF
    have hzb : (z == 0) = false := beq_eq_false_iff_ne.mpr hz
    have hzb2 : (z != 0) = true := bne_iff_ne.mpr hz
    clear hz
    go_enter Tryz.func134, Tryz.ntmps134
    go_wp2_with (go_at_call 188; refine (lex_Scan.calls k a0 l z _ HS.out).mono ?_; rintro e w1 ⟨v0, rfl, ho, hb⟩; have HB := Aside0.mk hb; clear ho hb)
    go_ret2
    exact ⟨_, rfl, Kd.R_nil _ _ _ _ _, HB.out⟩
end Go.Proofs.YtjohcncekfcgpaaGreatDoor.P
end
