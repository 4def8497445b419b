/- A part of the proof of the card of MsgLines. -/
import Derived.WalkLawsBesides
import Derived.Test.YtjohcncekfcgpaaGreatDoorZMLs05
import Derived.Test.YtjohcncekfcgpaaGreatDoorZMLs04
import Derived.Test.YtjohcncekfcgpaaGreatDoorZMLs06
set_option linter.unusedVariables false
set_option linter.unusedSimpArgs false
section
set_option linter.unusedVariables false
namespace Go.Proofs.YtjohcncekfcgpaaGreatDoor.P
open Go.RowKit Go.Proofs.YtjohcncekfcgpaaGreatDoorW.PrintWords Go.Proofs.YtjohcncekfcgpaaGreatDoorW.PrintLast
theorem bt_nat (s : ByteArray) (i : Nat) (h : i < s.size) : bt s (i : Int) = (s[i].toNat : Int) := by
  unfold bt; rw [dif_pos (by simpa using h)]; simp
theorem bt_list (s : ByteArray) (i : Nat) (h : i < s.data.toList.length) : bt s (i : Int) = ((s.data.toList[i]).toNat : Int) := by
  rw [bt_nat s i (by simpa using h)]; rfl
theorem wrapI (n : Nat) (h : n < 9223372036854775807) : wrap64 ((n : Int) + 1) = ((n + 1 : Nat) : Int) := by unfold wrap64; omega
def atomB (b : UInt8) : Bool := decide (128 ≤ b.toNat) || (decide (33 ≤ b.toNat) && decide (b.toNat < 127) && !([40, 41, 60, 62, 91, 93, 58, 59, 64, 44, 46, 92, 34] : List UInt8).contains b)
theorem atomic_eq : ∀ n : Fin 256, lex_atomic.f (n.val : Int) = some (atomB (UInt8.ofNat n.val)) := by decide +kernel
theorem atomic_b (b : UInt8) : lex_atomic.f (b.toNat : Int) = some (atomB b) := by
  have := atomic_eq ⟨b.toNat, b.toNat_lt⟩
  simpa using this
def isAtomL (l : List UInt8) : Bool := l.all atomB && !l.isEmpty
theorem isAtom_loop (s : ByteArray) (hs : s.size < 9223372036854775807) (d : Nat) : ∀ (k i : Nat), i + d = s.size → d < k →
    lex_IsAtom.l0 k s (s.size : Int) (i : Int) = some ((s.data.toList.drop i).all atomB && (!s.data.toList.isEmpty)) := by
  induction d with
  | zero =>
    intro k i hi hk
    obtain ⟨k, rfl⟩ : ∃ m, k = m + 1 := ⟨k - 1, by omega⟩
    simp only [lex_IsAtom.l0]
    rw [if_neg (by omega)]
    rw [List.drop_eq_nil_of_le (by simp; omega)]
    simp [neNil, Lib.toList_data]
  | succ d ih =>
    intro k i hi hk
    obtain ⟨k, rfl⟩ : ∃ m, k = m + 1 := ⟨k - 1, by omega⟩
    simp only [lex_IsAtom.l0]
    have hlt : i < s.size := by omega
    rw [if_pos (by omega), if_pos (by omega), if_pos (by omega), bt_nat s i hlt, atomic_b]
    simp only [Option.bind_some]
    have hd : s.data.toList.drop i = s[i] :: s.data.toList.drop (i + 1) := by
      rw [List.drop_eq_getElem_cons (by simpa using hlt)]; rfl
    rw [hd, List.all_cons]
    cases hb : atomB s[i] with
    | true => simp only [if_true, Bool.true_and]; rw [wrapI i (by omega)]; exact ih k (i + 1) (by omega) (by omega)
    | false => simp
theorem isAtom_ev (s : ByteArray) (hs : s.size < 9223372036854775807) : lex_IsAtom.f (s.size + 1) s = some (isAtomL s.data.toList) := by
  have := isAtom_loop s hs s.size (s.size + 1) 0 (by omega) (by omega)
  unfold lex_IsAtom.f
  simpa [isAtomL] using this
def labB (b : UInt8) : Bool := (decide (97 ≤ b.toNat) && decide (b.toNat ≤ 122)) || (decide (65 ≤ b.toNat) && decide (b.toNat ≤ 90)) || (decide (48 ≤ b.toNat) && decide (b.toNat ≤ 57)) || b == 45
theorem labelled_eq : ∀ n : Fin 256, addr_labelled.f (n.val : Int) = some (labB (UInt8.ofNat n.val)) := by decide +kernel
theorem labelled_b (b : UInt8) : addr_labelled.f (b.toNat : Int) = some (labB b) := by
  have := labelled_eq ⟨b.toNat, b.toNat_lt⟩
  simpa using this
def labelL (l : List UInt8) : Bool := l.all labB && !l.isEmpty && l.head? != some 45 && l.getLast? != some 45
theorem label_loop (s : ByteArray) (hs : s.size < 9223372036854775807) (d : Nat) : ∀ (k i : Nat), i + d = s.size → d < k →
    addr_label.l0 k s (s.size : Int) (i : Int) = some ((s.data.toList.drop i).all labB && (!s.data.toList.isEmpty && s.data.toList.head? != some 45 && s.data.toList.getLast? != some 45)) := by
  induction d with
  | zero =>
    intro k i hi hk
    obtain ⟨k, rfl⟩ : ∃ m, k = m + 1 := ⟨k - 1, by omega⟩
    simp only [addr_label.l0]
    rw [if_neg (by omega)]
    rw [List.drop_eq_nil_of_le (by simp; omega)]
    cases hl : s.data.toList with
    | nil => simp [Lib.toList_data, hl]
    | cons x xs =>
      have hsz : s.size = xs.length + 1 := by have : s.data.toList.length = s.size := by simp
                                              rw [← this, hl]; simp
      rw [if_neg (by rw [Lib.toList_data, hl]; simp), if_pos (by omega)]
      have hx : bt s 0 = (x.toNat : Int) := by
        have := bt_list s 0 (by rw [hl]; simp); simpa [hl] using this
      have hw : wrap64 ((s.size : Int) - 1) = ((xs.length : Nat) : Int) := by unfold wrap64; omega
      have hy : bt s ((xs.length : Nat) : Int) = ((((x :: xs).getLast (by simp)).toNat : Nat) : Int) := by
        have := bt_list s xs.length (by rw [hl]; simp)
        rw [this]; congr 2
        rw [List.getLast_eq_getElem]; simp [hl]
      rw [hx]
      have e45 : ∀ u : UInt8, ((u.toNat : Int) = 45) ↔ u = 45 := fun u => ⟨fun h => by
        have : u.toNat = (45 : UInt8).toNat := by have : (45 : UInt8).toNat = 45 := rfl
                                                  omega
        exact UInt8.toNat_inj.1 this, fun h => by subst h; rfl⟩
      by_cases h1 : x = 45
      · rw [if_pos ((e45 x).2 h1)]; simp [h1]
      · rw [if_neg (fun h => h1 ((e45 x).1 h)), hw, if_pos (by omega), if_pos (by omega), hy]
        have hlast : (x :: xs).getLast? = some ((x :: xs).getLast (by simp)) := List.getLast?_eq_some_getLast (by simp)
        rw [hlast]
        generalize (x :: xs).getLast (by simp) = y
        by_cases h2 : y = 45
        · have := (e45 y).2 h2
          rw [this]; simp [h2]
        · have h3 : ¬ ((y.toNat : Int) = 45) := fun h => h2 ((e45 y).1 h)
          have h4 : ((y.toNat : Int) != 45) = true := by simpa using h3
          rw [h4]; simp [h1, h2]
  | succ d ih =>
    intro k i hi hk
    obtain ⟨k, rfl⟩ : ∃ m, k = m + 1 := ⟨k - 1, by omega⟩
    simp only [addr_label.l0]
    have hlt : i < s.size := by omega
    rw [if_pos (by omega), if_pos (by omega), if_pos (by omega), bt_nat s i hlt, labelled_b]
    simp only [Option.bind_some]
    have hd : s.data.toList.drop i = s[i] :: s.data.toList.drop (i + 1) := by
      rw [List.drop_eq_getElem_cons (by simpa using hlt)]; rfl
    rw [hd, List.all_cons]
    cases hb : labB s[i] with
    | true => simp only [if_true, Bool.true_and]; rw [wrapI i (by omega)]; exact ih k (i + 1) (by omega) (by omega)
    | false => simp
theorem label_ev (s : ByteArray) (hs : s.size < 9223372036854775807) : addr_label.f (s.size + 1) s = some (labelL s.data.toList) := by
  have := label_loop s hs s.size (s.size + 1) 0 (by omega) (by omega)
  unfold addr_label.f
  simp only [List.drop_zero] at this
  unfold labelL
  rw [show ((0 : Nat) : Int) = 0 from rfl] at this
  rw [this]; simp [Bool.and_assoc]
end Go.Proofs.YtjohcncekfcgpaaGreatDoor.P
end
section
set_option linter.unusedVariables false
namespace Go.Proofs.YtjohcncekfcgpaaGreatDoor.P
open Go.RowKit Go.Shelf Go.Proofs.YtjohcncekfcgpaaGreatDoorW.PrintWords Go.Proofs.YtjohcncekfcgpaaGreatDoorW.PrintLast
attribute [local go_sem] Oper.semAt_some
def pieces (sep s : ByteArray) : List ByteArray := Lib.splitB sep 0 s.size s
theorem pieces_size (sep : ByteArray) : ∀ (k : Nat) (s x : ByteArray), x ∈ Lib.splitB sep 0 k s → x.size ≤ s.size
  | 0, s, x, h => by simp [Lib.splitB] at h; subst h; exact Nat.le_refl _
  | k + 1, s, x, h => by
    unfold Lib.splitB at h
    split at h
    · simp at h; subst h; exact Nat.le_refl _
    · rcases List.mem_cons.1 h with rfl | h
      · simp; omega
      · have := pieces_size sep k _ x h; simp at this; omega
def dottedB (s : ByteArray) : Bool := (pieces ⟨#[46]⟩ s).all fun p => isAtomL p.data.toList
def addr_Dotted.f (a0 : ByteArray) : Option (Bool) := if a0.size < 4294967281 then some (dottedB a0) else none
theorem all_prefix {α : Type} {p : α → Bool} {pre l : List α} {x : α} (h : pre <+: l) (hx : x ∈ pre) (hp : p x = false) : l.all p = false := by
  rw [List.all_eq_false]; exact ⟨x, h.subset hx, by simp [hp]⟩
set_option maxRecDepth 100000 in
set_option maxHeartbeats 4000000 in
theorem addr_Dotted.calls (a0 : ByteArray) (r : Bool) (w : World) (h : addr_Dotted.f a0 = some r) (hGU : GU w := by exact gUT) :
    Calls Tryz.prog 179 #[.string a0] w fun e w' => e = .returned (.bool r) ∧ Below w.heap.size w w' := by
  unfold addr_Dotted.f at h
  split at h
  · rename_i hs
    obtain rfl := Option.some.inj h
    clear h
    refine (callsIn_wide (n := 5)).1 ?_
    refine callsIn_of_wp_marks Tryz.func179 rfl trivial ?_ rfl
    simp only [Tryz.ntmps179, List.size_toArray, List.length_cons, List.length_nil, Nat.reduceAdd, Nat.reduceSub, Array.replicate_succ, Array.replicate_zero, List.push_toArray, List.append_toArray, List.nil_append, List.cons_append]
    gi_wp2_with (refine ⟨trivial, ?_⟩; gi_at_call 76; refine (callsIn_wide.2 (SplitSeq_in _ _ _)).mono ?_; rintro e w' ⟨rfl, rfl⟩)
    obtain ⟨V, hV⟩ : ∃ V, V = w.alloc (.cells #[.bool false] 4) := ⟨_, rfl⟩
    have hVs : V.heap.size = w.heap.size + 1 := by rw [hV]; simp
    have hVb : V.heap[w.heap.size]? = some (.cells #[.bool false] 4 (0, 0)) := by rw [hV]; exact World.alloc_heap_new w _
    have hVB : Below w.heap.size w V := by rw [hV]; exact (Below.refl _ w).alloc (Nat.le_refl _) _
    have hVM : MaxB V := (hGU.below hVB).maxB
    rw [← hV]
    obtain ⟨b1, b2, b3, hz, hold⟩ := split_blocks V a0 ⟨#[46]⟩
    obtain ⟨W0, hW0⟩ : ∃ W0, W0 = ((V.alloc (.cells #[.string a0] 9)).alloc (.cells #[.string ⟨#[46]⟩] 9)).alloc (.cells #[.int .i64 0] 3) := ⟨_, rfl⟩
    rw [← hW0] at b1 b2 b3 hz hold ⊢
    have hB0 : Below w.heap.size w W0 := by rw [hW0]; exact ((hVB.alloc hVB.size _).alloc (by simp; omega) _).alloc (by simp; omega) _
    have hM0 : MaxB W0 := hVM.same (fun o ho => (hold _ (Array.getElem?_eq_some_iff.1 ho).1).trans ho)
    have hg2 : 0 < w.heap.size := by obtain ⟨m, hm⟩ := hGU.maxLen; exact World.block_lt_of_cell? w _ hm
    clear hVM hV hW0
    rw [hVs] at b1 b2 b3 hz
    refine wpIn_rangeFunc_st rfl (by omega) (gf := 186) (lb := #[.pointer (some ⟨w.heap.size + 1 + 1, 0, none⟩), .pointer (some ⟨w.heap.size + 1, 0, none⟩), .pointer (some ⟨w.heap.size + 1 + 2, 0, none⟩)]) rfl trivial (enters_of Tryz.func186 (by kernel_rfl) rfl)
      (splitSeq_st _ (by omega) (w.heap.size + 1) (w.heap.size + 1 + 1) (w.heap.size + 1 + 2) a0 ⟨#[46]⟩ hs (by decide) (by decide) (by omega) (by omega) (by omega) W0 b1 b2 b3 hM0) (by omega) (fun h k => h.t k) (fun W l o o' hl h h1 h2 => KeepB.b (w := W0) (by intro k hk; simp at hk; omega) W l o o' hl h h1 h2) (Below.refl _ _) (fun _ => rfl)
      (fun pre W => (∀ y ∈ pre, isAtomL y.data.toList = true) ∧ W.heap[w.heap.size]? = some (.cells #[.bool false] 4 (0, 0)) ∧ Below w.heap.size w W)
      (fun c pre W => (c = .ret ∧ ∃ y ∈ pre, isAtomL y.data.toList = false) ∧ W.heap[w.heap.size]? = some (.cells #[.bool false] 4 (0, 0)) ∧ Below w.heap.size w W)
      (abs_word (by omega) (by omega) (by omega) (by omega)) (fun c => abs_word (by omega) (by omega) (by omega) (by omega))
      ⟨by simp, (hold _ (by omega)).trans hVb, hB0⟩
      (fun x => { tmps := #[.string a0, undef, .pointer (some ⟨w.heap.size, 0, none⟩), .string x, .string a0, .func (.func 186) #[] #[.pointer (some ⟨w.heap.size + 1 + 1, 0, none⟩), .pointer (some ⟨w.heap.size + 1, 0, none⟩), .pointer (some ⟨w.heap.size + 1 + 2, 0, none⟩)], .string x, undef, undef, undef], defers := [] }) ?assign ?body ?done ?stop
    case assign =>
      intro l x W K hK
      gi_wp2
      exact hK
    case body =>
      rintro l pre x W ⟨hp, hc, hB⟩ hlen
      have hcell : W.cell? ⟨w.heap.size, 0, none⟩ = some (.bool false) := by simp [World.cell?, hc]
      have hfrz : W.frozen? ⟨w.heap.size, 0, none⟩ = false := by simp [World.frozen?, hc]
      have hx9 : x.size < 4294967281 := by have := pieces_size ⟨#[46]⟩ a0.size a0 x (hlen.subset (by simp)); omega
      have HE := Lib.hid (isAtom_ev x (by omega))
      have h13 : 1 ≤ 3 := by omega
      by_cases hat : isAtomL x.data.toList = true
      · have HA := Lib.hid hat; clear hat
        gi_wp2_with (refine ⟨trivial, ?_⟩; gi_at_call 220; refine (CallsIn.inRound l (callsIn_wide.2 (lex_IsAtom.calls _ x true _ (by rw [HE.out, HA.out])))).mono ?_; rintro e w' ⟨rfl, ⟨n, rfl⟩⟩)
        exact ⟨⟨Nat.le_refl _, fun _ _ h _ => h⟩, ⟨Nat.le_refl _, fun _ _ _ => rfl⟩, fun y hy => (List.mem_append.1 hy).elim (hp y) (fun e => by simp at e; subst e; exact HA.out), hc, pw_below_drewN hB n⟩
      · have hat' : isAtomL x.data.toList = false := by simpa using hat
        have HA := Lib.hid hat'; clear hat hat'
        gi_wp2_with (refine ⟨trivial, ?_⟩; gi_at_call 220; refine (CallsIn.inRound l (callsIn_wide.2 (lex_IsAtom.calls _ x false _ (by rw [HE.out, HA.out])))).mono ?_; rintro e w' ⟨rfl, ⟨n, rfl⟩⟩)
        exact ⟨KeepsOthers.trans (B := W.drewN n) ⟨Nat.le_refl _, fun _ _ h _ => h⟩ (KeepsOthers.setCell _ _ _), ⟨rfl, x, by simp, HA.out⟩, heap_set0 _ _ hc, (pw_below_drewN hB n).setCell (p := ⟨w.heap.size, 0, none⟩) (Nat.le_refl _) _⟩
    case done =>
      rintro D ys W hD rfl ⟨hp, hc, hB⟩ hK
      have hcell : W.cell? ⟨w.heap.size, 0, none⟩ = some (.bool false) := by simp [World.cell?, hc]
      have hfrz : W.frozen? ⟨w.heap.size, 0, none⟩ = false := by simp [World.frozen?, hc]
      have hall : dottedB a0 = true := List.all_eq_true.2 hp
      have HA := Lib.hid hall; clear hall
      gi_wp2
      have hK' := (KeepsOthers.setCell W ⟨w.heap.size, 0, none⟩ (.bool true)).same D _ hK rfl
      refine ⟨by simp, .inl ⟨_, _, rfl, run_takeDeferred hK', ?_⟩⟩
      have hc5 := cell_kept (World.cell?_setCell_same' W ⟨w.heap.size, 0, none⟩ (.bool true) (by rw [hcell]; rfl)) (grownBy_putObj' _ D (.deferred none)) (fun r e => by cases e; exact ⟨_, hK', rfl⟩)
      refine ⟨.bool true, ?_, by rw [HA.out], (hB.setCell (p := ⟨w.heap.size, 0, none⟩) (Nat.le_refl _) _).trans (belowK_b (w := w) (Nat.le_refl _) _ D _ _ (by omega) hK' rfl rfl)⟩
      simp [results, Tryz.f179, go_sem, hc5]
    case stop =>
      rintro D c pre W hD hpre ⟨⟨rfl, y, hy, hn⟩, hc, hB⟩ hK
      have hcell : W.cell? ⟨w.heap.size, 0, none⟩ = some (.bool false) := by simp [World.cell?, hc]
      have hall : dottedB a0 = false := all_prefix hpre hy hn
      have HA := Lib.hid hall; clear hall
      gi_wp2
      refine ⟨by simp, .inl ⟨_, _, rfl, run_takeDeferred hK, ?_⟩⟩
      have hc5 := cell_kept hcell (grownBy_putObj' _ D (.deferred none)) (fun r e => by cases e; exact ⟨_, hK, rfl⟩)
      refine ⟨.bool false, ?_, by rw [HA.out], hB.trans (belowK_b (w := w) (Nat.le_refl _) W D _ _ (by omega) hK rfl rfl)⟩
      simp [results, Tryz.f179, go_sem, hc5]
  · cases h
def longV (s : ByteArray) (l : List ByteArray) : Bool := decide (253 < s.size) || l.any fun p => decide (63 < p.size)
theorem longV_snoc (s : ByteArray) (l : List ByteArray) (x : ByteArray) : longV s (l ++ [x]) = (longV s l || decide (63 < x.size)) := by
  unfold longV; rw [List.any_append]; simp [Bool.or_assoc]
def domainV (s : ByteArray) : Int := if (pieces ⟨#[46]⟩ s).all (fun p => labelL p.data.toList) = true then (if longV s (pieces ⟨#[46]⟩ s) = true then 2 else 0) else 130
def addr_domain.f (a0 : ByteArray) : Option (Int) := if a0.size < 4294967281 then some (domainV a0) else none
set_option maxRecDepth 100000 in
set_option maxHeartbeats 4000000 in
theorem addr_domain.calls (a0 : ByteArray) (r : Int) (w : World) (h : addr_domain.f a0 = some r) (hGU : GU w := by exact gUT) :
    Calls Tryz.prog 278 #[.string a0] w fun e w' => e = .returned (.int .i64 r) ∧ Below w.heap.size w w' := by
  unfold addr_domain.f at h
  split at h
  · rename_i hs
    obtain rfl := Option.some.inj h
    clear h
    refine (callsIn_wide (n := 5)).1 ?_
    refine callsIn_of_wp_marks Tryz.func278 rfl trivial ?_ rfl
    simp only [Tryz.ntmps278, List.size_toArray, List.length_cons, List.length_nil, Nat.reduceAdd, Nat.reduceSub, Array.replicate_succ, Array.replicate_zero, List.push_toArray, List.append_toArray, List.nil_append, List.cons_append]
    gi_wp2_with (refine ⟨trivial, ?_⟩; gi_at_call 76; refine (callsIn_wide.2 (SplitSeq_in _ _ _)).mono ?_; rintro e w' ⟨rfl, rfl⟩)
    obtain ⟨V, hV⟩ : ∃ V, V = (w.alloc (.cells #[.int .i64 0] 26)).alloc (.cells #[.bool (decide (253 < (a0.size : Int)))] 4) := ⟨_, rfl⟩
    have hVs : V.heap.size = w.heap.size + 1 + 1 := by rw [hV]; simp
    have hVb : V.heap[w.heap.size]? = some (.cells #[.int .i64 0] 26 (0, 0)) := by rw [hV, Below.heap_alloc _ _ _ (by simp)]; exact World.alloc_heap_new w _
    have hVc : V.heap[w.heap.size + 1]? = some (.cells #[.bool (longV a0 [])] 4 (0, 0)) := by
      have := World.alloc_heap_new (w.alloc (.cells #[.int .i64 0] 26)) (.cells #[.bool (decide (253 < (a0.size : Int)))] 4)
      simp only [World.size_alloc] at this
      have e : decide (253 < (a0.size : Int)) = longV a0 [] := by unfold longV; simp only [List.any_nil, Bool.or_false, decide_eq_decide]; omega
      rw [hV, this, e]
    have hVB : Below w.heap.size w V := by rw [hV]; exact ((Below.refl _ w).alloc (Nat.le_refl _) _).alloc (by simp) _
    have hVM : MaxB V := (hGU.below hVB).maxB
    rw [← hV]
    obtain ⟨b1, b2, b3, hz, hold⟩ := split_blocks V a0 ⟨#[46]⟩
    obtain ⟨W0, hW0⟩ : ∃ W0, W0 = ((V.alloc (.cells #[.string a0] 9)).alloc (.cells #[.string ⟨#[46]⟩] 9)).alloc (.cells #[.int .i64 0] 3) := ⟨_, rfl⟩
    rw [← hW0] at b1 b2 b3 hz hold ⊢
    have hB0 : Below w.heap.size w W0 := by rw [hW0]; exact ((hVB.alloc hVB.size _).alloc (by simp; omega) _).alloc (by simp; omega) _
    have hM0 : MaxB W0 := hVM.same (fun o ho => (hold _ (Array.getElem?_eq_some_iff.1 ho).1).trans ho)
    have hg2 : 0 < w.heap.size := by obtain ⟨m, hm⟩ := hGU.maxLen; exact World.block_lt_of_cell? w _ hm
    clear hVM hV hW0
    rw [hVs] at b1 b2 b3 hz
    obtain ⟨L0, hL0⟩ : ∃ L0, L0 = decide (253 < (a0.size : Int)) := ⟨_, rfl⟩
    rw [← hL0]
    clear hL0
    refine wpIn_rangeFunc_st rfl (by omega) (gf := 186) (lb := #[.pointer (some ⟨w.heap.size + 1 + 1 + 1, 0, none⟩), .pointer (some ⟨w.heap.size + 1 + 1, 0, none⟩), .pointer (some ⟨w.heap.size + 1 + 1 + 2, 0, none⟩)]) rfl trivial (enters_of Tryz.func186 (by kernel_rfl) rfl)
      (splitSeq_st _ (by omega) (w.heap.size + 1 + 1) (w.heap.size + 1 + 1 + 1) (w.heap.size + 1 + 1 + 2) a0 ⟨#[46]⟩ hs (by decide) (by decide) (by omega) (by omega) (by omega) W0 b1 b2 b3 hM0) (by omega) (fun h k => h.t k) (fun W l o o' hl h h1 h2 => KeepB.b (w := W0) (by intro k hk; simp at hk; omega) W l o o' hl h h1 h2) (Below.refl _ _) (fun _ => rfl)
      (fun pre W => (∀ y ∈ pre, labelL y.data.toList = true) ∧ W.heap[w.heap.size]? = some (.cells #[.int .i64 0] 26 (0, 0)) ∧ W.heap[w.heap.size + 1]? = some (.cells #[.bool (longV a0 pre)] 4 (0, 0)) ∧ Below w.heap.size w W)
      (fun c pre W => (c = .ret ∧ ∃ y ∈ pre, labelL y.data.toList = false) ∧ W.heap[w.heap.size]? = some (.cells #[.int .i64 130] 26 (0, 0)) ∧ Below w.heap.size w W)
      (abs_word2 (by omega) (by omega) (by omega) (by omega) (by omega) (by omega)) (fun c => abs_word (by omega) (by omega) (by omega) (by omega))
      ⟨by simp, (hold _ (by omega)).trans hVb, (hold _ (by omega)).trans hVc, hB0⟩
      (fun x => { tmps := #[.string a0, undef, .pointer (some ⟨w.heap.size, 0, none⟩), .pointer (some ⟨w.heap.size + 1, 0, none⟩), .string x, .string a0, .int .i64 a0.size, .bool L0, .string a0, .func (.func 186) #[] #[.pointer (some ⟨w.heap.size + 1 + 1 + 1, 0, none⟩), .pointer (some ⟨w.heap.size + 1 + 1, 0, none⟩), .pointer (some ⟨w.heap.size + 1 + 1 + 2, 0, none⟩)], .string x, undef, undef, undef, undef, undef, undef, undef, undef, undef, undef], defers := [] }) ?assign ?body ?done ?stop
    case assign =>
      intro l x W K hK
      gi_wp2
      exact hK
    case body =>
      rintro l pre x W ⟨hp, hc, hl1, hB⟩ hlen
      have hcell : W.cell? ⟨w.heap.size, 0, none⟩ = some (.int .i64 0) := by simp [World.cell?, hc]
      have hfrz : W.frozen? ⟨w.heap.size, 0, none⟩ = false := by simp [World.frozen?, hc]
      have hsn := longV_snoc a0 pre x
      generalize longV a0 pre = b at hl1 hsn
      have hcel1 : W.cell? ⟨w.heap.size + 1, 0, none⟩ = some (.bool b) := by simp [World.cell?, hl1]
      have hfrz1 : W.frozen? ⟨w.heap.size + 1, 0, none⟩ = false := by simp [World.frozen?, hl1]
      have hx9 : x.size < 4294967281 := by have := pieces_size ⟨#[46]⟩ a0.size a0 x (hlen.subset (by simp)); omega
      have HE := Lib.hid (label_ev x (by omega))
      have HS := Lib.hid hsn; clear hsn
      have h13 : 1 ≤ 3 := by omega
      by_cases hat : labelL x.data.toList = true
      · have HA := Lib.hid hat; clear hat
        have hp' : ∀ y ∈ pre ++ [x], labelL y.data.toList = true := fun y hy => (List.mem_append.1 hy).elim (hp y) (fun e => by simp at e; subst e; exact HA.out)
        have HP := Lib.hid hp'; clear hp' hp
        have fin : ∀ (n : Nat) (b' : Bool), longV a0 (pre ++ [x]) = b' → KeepsOthers W ((W.drewN n).setCell ⟨w.heap.size + 1, 0, none⟩ (.bool b')) ∧ KeepB [0, w.heap.size + 1 + 1 + 1, w.heap.size + 1 + 1, w.heap.size + 1 + 1 + 2] W ((W.drewN n).setCell ⟨w.heap.size + 1, 0, none⟩ (.bool b')) ∧
            ((∀ y ∈ pre ++ [x], labelL y.data.toList = true) ∧ ((W.drewN n).setCell ⟨w.heap.size + 1, 0, none⟩ (.bool b')).heap[w.heap.size]? = some (.cells #[.int .i64 0] 26 (0, 0)) ∧ ((W.drewN n).setCell ⟨w.heap.size + 1, 0, none⟩ (.bool b')).heap[w.heap.size + 1]? = some (.cells #[.bool (longV a0 (pre ++ [x]))] 4 (0, 0)) ∧ Below w.heap.size w ((W.drewN n).setCell ⟨w.heap.size + 1, 0, none⟩ (.bool b'))) := by
          intro n b' hb'
          refine ⟨KeepsOthers.trans (B := W.drewN n) ⟨Nat.le_refl _, fun _ _ h _ => h⟩ (KeepsOthers.setCell _ _ _), ⟨by simp [World.setCell], fun k hk _ => ?_⟩, HP.out, ?_, ?_, (pw_below_drewN hB n).setCell (p := ⟨w.heap.size + 1, 0, none⟩) (by simp) _⟩
          · exact Below.heap_setCell (W.drewN n) ⟨w.heap.size + 1, 0, none⟩ _ k (by simp at hk; simp; omega)
          · rw [Below.heap_setCell _ _ _ _ (by simp)]; exact hc
          · rw [hb']; exact heap_set0 _ _ hl1
        have FIN := Lib.hid fin; clear fin
        cases b with
        | true =>
          gi_wp2_with (refine ⟨trivial, ?_⟩; gi_at_call 281; refine (CallsIn.inRound l (callsIn_wide.2 (addr_label.calls _ x true _ (by rw [HE.out, HA.out])))).mono ?_; rintro e w' ⟨rfl, ⟨n, rfl⟩⟩)
          exact FIN.out n true (by rw [HS.out]; simp)
        | false =>
          by_cases h63 : 63 < x.size
          · have h63' : decide (63 < (x.size : Int)) = true := by simp; omega
            gi_wp2_with (refine ⟨trivial, ?_⟩; gi_at_call 281; refine (CallsIn.inRound l (callsIn_wide.2 (addr_label.calls _ x true _ (by rw [HE.out, HA.out])))).mono ?_; rintro e w' ⟨rfl, ⟨n, rfl⟩⟩)
            exact FIN.out n true (by rw [HS.out]; simpa using h63)
          · have h63' : decide (63 < (x.size : Int)) = false := by simp; omega
            gi_wp2_with (refine ⟨trivial, ?_⟩; gi_at_call 281; refine (CallsIn.inRound l (callsIn_wide.2 (addr_label.calls _ x true _ (by rw [HE.out, HA.out])))).mono ?_; rintro e w' ⟨rfl, ⟨n, rfl⟩⟩)
            exact FIN.out n false (by rw [HS.out]; simp; omega)
      · have hat' : labelL x.data.toList = false := by simpa using hat
        have HA := Lib.hid hat'; clear hat hat'
        gi_wp2_with (refine ⟨trivial, ?_⟩; gi_at_call 281; refine (CallsIn.inRound l (callsIn_wide.2 (addr_label.calls _ x false _ (by rw [HE.out, HA.out])))).mono ?_; rintro e w' ⟨rfl, ⟨n, rfl⟩⟩)
        exact ⟨KeepsOthers.trans (B := W.drewN n) ⟨Nat.le_refl _, fun _ _ h _ => h⟩ (KeepsOthers.setCell _ _ _), ⟨rfl, x, by simp, HA.out⟩, heap_set0 _ _ hc, (pw_below_drewN hB n).setCell (p := ⟨w.heap.size, 0, none⟩) (Nat.le_refl _) _⟩
    case done =>
      rintro D ys W hD rfl ⟨hp, hc, hl1, hB⟩ hK
      have hcell : W.cell? ⟨w.heap.size, 0, none⟩ = some (.int .i64 0) := by simp [World.cell?, hc]
      have hfrz : W.frozen? ⟨w.heap.size, 0, none⟩ = false := by simp [World.frozen?, hc]
      have hall : (pieces ⟨#[46]⟩ a0).all (fun p => labelL p.data.toList) = true := List.all_eq_true.2 hp
      have hl2 : W.heap[w.heap.size + 1]? = some (.cells #[.bool (longV a0 (pieces ⟨#[46]⟩ a0))] 4 (0, 0)) := hl1
      have hdv : domainV a0 = if longV a0 (pieces ⟨#[46]⟩ a0) = true then 2 else 0 := by unfold domainV; rw [if_pos hall]
      generalize longV a0 (pieces ⟨#[46]⟩ a0) = b at hl2 hdv
      have hcel1 : W.cell? ⟨w.heap.size + 1, 0, none⟩ = some (.bool b) := by simp [World.cell?, hl2]
      have HA := Lib.hid hdv; clear hdv hall hl1 hp
      cases b with
      | true =>
        gi_wp2
        have hK' := (KeepsOthers.setCell W ⟨w.heap.size, 0, none⟩ (.int .i64 2)).same D _ hK rfl
        refine ⟨by simp, .inl ⟨_, _, rfl, run_takeDeferred hK', ?_⟩⟩
        have hc5 := cell_kept (World.cell?_setCell_same' W ⟨w.heap.size, 0, none⟩ (.int .i64 2) (by rw [hcell]; rfl)) (grownBy_putObj' _ D (.deferred none)) (fun r e => by cases e; exact ⟨_, hK', rfl⟩)
        refine ⟨.int .i64 2, ?_, by rw [HA.out]; rfl, (hB.setCell (p := ⟨w.heap.size, 0, none⟩) (Nat.le_refl _) _).trans (belowK_b (w := w) (Nat.le_refl _) _ D _ _ (by omega) hK' rfl rfl)⟩
        simp [results, Tryz.f278, go_sem, hc5]
      | false =>
        gi_wp2
        have hK' := (KeepsOthers.setCell W ⟨w.heap.size, 0, none⟩ (.int .i64 0)).same D _ hK rfl
        refine ⟨by simp, .inl ⟨_, _, rfl, run_takeDeferred hK', ?_⟩⟩
        have hc5 := cell_kept (World.cell?_setCell_same' W ⟨w.heap.size, 0, none⟩ (.int .i64 0) (by rw [hcell]; rfl)) (grownBy_putObj' _ D (.deferred none)) (fun r e => by cases e; exact ⟨_, hK', rfl⟩)
        refine ⟨.int .i64 0, ?_, by rw [HA.out]; rfl, (hB.setCell (p := ⟨w.heap.size, 0, none⟩) (Nat.le_refl _) _).trans (belowK_b (w := w) (Nat.le_refl _) _ D _ _ (by omega) hK' rfl rfl)⟩
        simp [results, Tryz.f278, go_sem, hc5]
    case stop =>
      rintro D c pre W hD hpre ⟨⟨rfl, y, hy, hn⟩, hc, hB⟩ hK
      have hcell : W.cell? ⟨w.heap.size, 0, none⟩ = some (.int .i64 130) := by simp [World.cell?, hc]
      have hall : (pieces ⟨#[46]⟩ a0).all (fun p => labelL p.data.toList) = false := all_prefix hpre hy hn
      have hdv : domainV a0 = 130 := by unfold domainV; rw [hall]; rfl
      have HA := Lib.hid hdv; clear hall hdv
      gi_wp2
      refine ⟨by simp, .inl ⟨_, _, rfl, run_takeDeferred hK, ?_⟩⟩
      have hc5 := cell_kept hcell (grownBy_putObj' _ D (.deferred none)) (fun r e => by cases e; exact ⟨_, hK, rfl⟩)
      refine ⟨.int .i64 130, ?_, by rw [HA.out], hB.trans (belowK_b (w := w) (Nat.le_refl _) W D _ _ (by omega) hK rfl rfl)⟩
      simp [results, Tryz.f278, go_sem, hc5]
  · cases h
end Go.Proofs.YtjohcncekfcgpaaGreatDoor.P
end
section
set_option linter.unusedVariables false
namespace Go.Proofs.YtjohcncekfcgpaaGreatDoor.P
open Go.RowKit Go.Shelf Go.Proofs.YtjohcncekfcgpaaGreatDoorW.PrintWords Go.Proofs.YtjohcncekfcgpaaGreatDoorW.PrintLast
def glyph_Fold.f (a0 : ByteArray) : Option (ByteArray) := if a0.size < 4294967281 then some (mkB (foldL a0.data.toList)) else none
set_option maxHeartbeats 2000000 in
set_option maxRecDepth 100000 in
theorem glyph_Fold.calls (a0 : ByteArray) (r : ByteArray) (w : World) (h : glyph_Fold.f a0 = some r) :
    Calls Tryz.prog 59 #[.string a0] w fun e w' => e = .returned (.string r) ∧ Below w.heap.size w w' := by
  unfold glyph_Fold.f at h
  split at h
  · rename_i hs
    obtain rfl := Option.some.inj h
    clear h
    go_enter Tryz.func59, Tryz.ntmps59
    go_wp2
    go_loopw [8] (fun v wr => ∃ k : Nat, k ≤ a0.size ∧ v = .int .i64 k ∧ Lib.IsBuilderF 146 5 w.heap.size w.heap.size (Lib.byteCells (foldL (a0.data.toList.take k))) wr ∧ Below w.heap.size w wr) (fun v _ => a0.size - (intOf v).toNat)
    case atStart =>
      exact ⟨0, Nat.zero_le _, rfl, Lib.IsBuilderF.of (Lib.fresh_isBuilder 146 5 w), (Below.refl _ w).alloc (Nat.le_refl _) _⟩
    case round =>
      obtain ⟨k, hk, rfl, hI, hbw⟩ := hrel
      have hle := hbw.size
      have hfl : (Lib.byteCells (foldL (a0.data.toList.take k))).length + 1 ≤ 140737488355328 := by
        rw [Lib.byteCells_length]; unfold foldL; rw [List.length_map]; have := List.length_take_le k a0.data.toList; omega
      by_cases hlt : k < a0.size
      · have hsn := foldL_take_snoc a0 k hlt
        have HS := Lib.hid hsn; clear hsn
        by_cases hc : 65 ≤ (a0[k].toNat : Int) ∧ (a0[k].toNat : Int) ≤ 90
        · obtain ⟨hc1, hc2⟩ := hc
          have hw8 := foldB_up a0[k] hc1 hc2
          have HW := Lib.hid hw8; clear hw8
          go_wp2_with (go_at_call 111; refine (bWriteByte w.heap.size w.heap.size _ _ _ hI hfl (by omega)).mono ?_; rintro e W1 ⟨rfl, h1, b1, _⟩)
          go_roundw
          case rel => exact ⟨k + 1, by omega, by go_num, by rw [HS.out, Lib.byteCells_append, HW.out]; exact Or.inr h1, hbw.trans b1⟩
          case measure => simp [intOf]; omega
        · have hw8 := foldB_same a0[k] hc
          have HW := Lib.hid hw8; clear hw8
          by_cases hc1 : 65 ≤ (a0[k].toNat : Int)
          · have hc2 : ¬ (a0[k].toNat : Int) ≤ 90 := fun h => hc ⟨hc1, h⟩
            clear hc
            go_wp2_with (go_at_call 111; refine (bWriteByte w.heap.size w.heap.size _ _ _ hI hfl (by omega)).mono ?_; rintro e W1 ⟨rfl, h1, b1, _⟩)
            go_roundw
            case rel => exact ⟨k + 1, by omega, by go_num, by rw [HS.out, Lib.byteCells_append, HW.out]; exact Or.inr h1, hbw.trans b1⟩
            case measure => simp [intOf]; omega
          · clear hc
            go_wp2_with (go_at_call 111; refine (bWriteByte w.heap.size w.heap.size _ _ _ hI hfl (by omega)).mono ?_; rintro e W1 ⟨rfl, h1, b1, _⟩)
            go_roundw
            case rel => exact ⟨k + 1, by omega, by go_num, by rw [HS.out, Lib.byteCells_append, HW.out]; exact Or.inr h1, hbw.trans b1⟩
            case measure => simp [intOf]; omega
      · have hkk : a0.data.toList.take k = a0.data.toList := List.take_of_length_le (by simpa using hlt)
        rw [hkk] at hI
        clear hkk
        go_wp2_with (go_at_call 112; refine (Tryz.Builder_String_any_k w.heap.size w.heap.size _ _ hI (by omega)).mono ?_; rintro e W1 ⟨rfl, _, b1, _⟩)
        go_ret
        exact ⟨rfl, hbw.trans b1⟩
  · cases h
def plainB (b : UInt8) : Bool := decide (32 ≤ b.toNat) && decide (b.toNat ≤ 126)
def glyph_Plain.f (a0 : ByteArray) : Option (Bool) := if a0.size < 4294967281 then some (a0.data.toList.all plainB) else none
theorem wp_all (s : ByteArray) (pos : Nat) (h : pos < s.size) (h1 : (s.data.toList.take pos).all plainB = true) (h2 : plainB s[pos] = true) : (s.data.toList.take (pos + 1)).all plainB = true := by
  rw [take_snocB s pos h, List.all_append, h1]; simp [h2]
theorem wp_not (s : ByteArray) (pos : Nat) (h : pos < s.size) (h2 : plainB s[pos] = false) : s.data.toList.all plainB = false := by
  rw [List.all_eq_false]; exact ⟨s[pos], by rw [List.mem_iff_getElem]; exact ⟨pos, by simpa using h, rfl⟩, by simp [h2]⟩
theorem glyph_plain_yes (r : Int) (w : World) (h : glyph_plain.f r = some true) : Calls Tryz.prog 217 #[.int .i32 r] w fun e w' => e = .returned (.bool true) ∧ Drawn0 w w' := glyph_plain.calls r true w h
set_option maxHeartbeats 2000000 in
set_option maxRecDepth 100000 in
theorem glyph_Plain.calls (a0 : ByteArray) (r : Bool) (w : World) (h : glyph_Plain.f a0 = some r) :
    Calls Tryz.prog 171 #[.string a0] w fun e w' => e = .returned (.bool r) ∧ Below w.heap.size w w' := by
  unfold glyph_Plain.f at h
  split at h
  · rename_i hs
    obtain rfl := Option.some.inj h
    clear h
    obtain ⟨R, hR⟩ : ∃ R, R = a0.data.toList.all plainB := ⟨_, rfl⟩
    rw [← hR]
    have HR := Lib.hid hR; clear hR
    go_enter Tryz.func171, Tryz.ntmps171
    go_wp2
    go_loopw [] (fun wr => ∃ pos : Nat, pos ≤ a0.size ∧ wr.heap[w.heap.size]? = some (.stringIter a0 pos) ∧ Below w.heap.size w wr ∧ Hid ((a0.data.toList.take pos).all plainB = true)) (fun wr => a0.size - wr.iterPos w.heap.size)
    case atStart =>
      refine ⟨0, Nat.zero_le _, ?_, (Below.refl _ w).alloc (Nat.le_refl _) _, Lib.hid (by simp)⟩
      have := World.iter_heap w a0 0
      simpa using this
    case round =>
      obtain ⟨pos, hpos, hit, hbw, HA⟩ := hrel
      have hsz : w.heap.size < wr.heap.size := (Array.getElem?_eq_some_iff.1 hit).1
      by_cases hp : pos < a0.size
      · have hnx : ∀ ty, (Instr.next (.pointer (some ⟨w.heap.size, 0, none⟩)) true ty).run Tryz.prog wr = _ := fun ty => Lib.run_next_any_at wr w.heap.size a0 pos ty hit hp
        have hwd := decode_le a0 pos
        have hit2 := Lib.iterAt_heap wr w.heap.size a0 pos (pos + (Utf8.decode a0 pos).2) hit
        have hbw2 := Lib.below_iterAt hbw (k := w.heap.size) (by omega) a0 (pos + (Utf8.decode a0 pos).2)
        by_cases hpl : plainB a0[pos] = true
        · have hpl0 := hpl
          simp only [plainB, Bool.and_eq_true, decide_eq_true_eq] at hpl
          have hd := decode_ascii a0 pos hp (by omega)
          have HP := Lib.hid hpl0; clear hpl0
          have hpf : glyph_plain.f ((a0[pos].toNat : Nat) : Int) = some true := by unfold glyph_plain.f; rw [if_pos (by omega)]; simp; omega
          have HF := Lib.hid hpf; clear hpf
          have hd2 : (Utf8.decode a0 pos).2 = 1 := by rw [hd]
          rw [hd] at hnx hit2 hbw2
          clear hd hd2 hwd
          go_wp2_with (go_at_call 217; refine (glyph_plain.calls _ _ _ HF.out).mono ?_; rintro e W1 ⟨rfl, ⟨n, rfl⟩⟩)
          go_roundw
          case rel => exact ⟨pos + 1, by omega, hit2, pw_below_drewN hbw2 n, Lib.hid (wp_all a0 pos hp HA.out HP.out)⟩
          case measure =>
            have e0 : wr.iterPos w.heap.size = pos := by simp only [World.iterPos, hit]
            have e1 : ((wr.iterAt w.heap.size a0 (pos + 1)).drewN n).iterPos w.heap.size = pos + 1 := by
              have : ((wr.iterAt w.heap.size a0 (pos + 1)).drewN n).heap[w.heap.size]? = some (.stringIter a0 (pos + 1)) := hit2
              simp only [World.iterPos, this]
            rw [e0, e1]
            omega
        · have hpf : glyph_plain.f (((Utf8.decode a0 pos).1 : Nat) : Int) = some false := by
            by_cases ha : (a0[pos].toNat) < 128
            · rw [decode_ascii a0 pos hp ha]
              simp only [plainB, Bool.and_eq_true, decide_eq_true_eq, not_and] at hpl
              unfold glyph_plain.f
              split
              · simp; omega
              · rfl
            · have hh := (decode_high a0 pos hp (by omega)).1
              unfold glyph_plain.f
              rw [if_pos (by omega)]; simp; omega
          have HN := Lib.hid (wp_not a0 pos hp (by simpa using hpl))
          have HF := Lib.hid hpf; clear hpf hpl hwd
          go_wp2_with (go_at_call 217; refine (glyph_plain.calls _ _ _ HF.out).mono ?_; rintro e W1 ⟨rfl, ⟨n, rfl⟩⟩)
          go_ret
          exact ⟨by rw [HR.out, HN.out]; rfl, pw_below_drewN hbw2 n⟩
      · have hnx : ∀ ty, (Instr.next (.pointer (some ⟨w.heap.size, 0, none⟩)) true ty).run Tryz.prog wr = _ := fun ty => Lib.run_next_end_at wr w.heap.size a0 pos ty hit hp
        have hkk : a0.data.toList.take pos = a0.data.toList := List.take_of_length_le (by simpa using hp)
        rw [hkk] at HA
        clear hkk
        go_wp2
        go_ret
        exact ⟨by rw [HR.out, HA.out]; rfl, hbw⟩
  · cases h
end Go.Proofs.YtjohcncekfcgpaaGreatDoor.P
end
section
set_option linter.unusedVariables false
namespace Go.Proofs.YtjohcncekfcgpaaGreatDoor.P
open Go.RowKit Go.Proofs.YtjohcncekfcgpaaGreatDoorW.PrintWords Go.Proofs.YtjohcncekfcgpaaGreatDoorW.PrintLast
def blankB (b : UInt8) : Bool := b == 32 || b == 9
def lead (l : List UInt8) : Nat := (l.takeWhile blankB).length
def wordN (l : List UInt8) : Nat := (l.takeWhile fun b => !blankB b).length
def pieceN (l : List UInt8) : Nat := lead l + wordN (l.drop (lead l))
theorem lead_le (l : List UInt8) : lead l ≤ l.length := (List.takeWhile_prefix _).length_le
theorem wordN_le (l : List UInt8) : wordN l ≤ l.length := (List.takeWhile_prefix _).length_le
theorem pieceN_le (l : List UInt8) : pieceN l ≤ l.length := by
  unfold pieceN
  have h1 := lead_le l
  have h2 := wordN_le (l.drop (lead l))
  rw [List.length_drop] at h2
  omega
theorem pieceN_pos (l : List UInt8) (h : l ≠ []) : 1 ≤ pieceN l := by
  cases l with
  | nil => exact absurd rfl h
  | cons b l =>
    unfold pieceN lead
    by_cases hb : blankB b = true
    · rw [List.takeWhile_cons_of_pos hb]; simp; omega
    · rw [List.takeWhile_cons_of_neg hb]; unfold wordN; simp [hb]
theorem dropWhile_drop {α : Type} (p : α → Bool) : ∀ l : List α, l.dropWhile p = l.drop (l.takeWhile p).length
  | [] => rfl
  | b :: l => by
    by_cases hb : p b = true
    · rw [List.dropWhile_cons_of_pos hb, List.takeWhile_cons_of_pos hb, dropWhile_drop p l]; rfl
    · rw [List.dropWhile_cons_of_neg hb, List.takeWhile_cons_of_neg hb]; rfl
theorem blank_contains (b : UInt8) : ([32, 9] : List UInt8).contains b = blankB b := by
  simp only [blankB, List.contains_cons, List.contains_nil, Bool.or_false]
theorem trimLeftS_lead (l : List UInt8) : Lib.trimLeftS l [32, 9] = l.drop (lead l) := by
  unfold Lib.trimLeftS lead
  have e : (fun b => ([32, 9] : List UInt8).contains b) = blankB := funext blank_contains
  rw [e, dropWhile_drop]
theorem indexAny_word : ∀ l : List UInt8, Lib.indexAny l [32, 9] = if wordN l = l.length then -1 else (wordN l : Int)
  | [] => rfl
  | b :: l => by
    have ih := indexAny_word l
    unfold Lib.indexAny
    rw [blank_contains]
    by_cases hb : blankB b = true
    · have h0 : wordN (b :: l) = 0 := by unfold wordN; rw [List.takeWhile_cons_of_neg (by simp [hb])]; rfl
      rw [hb, h0]; simp
    · have h0 : wordN (b :: l) = wordN l + 1 := by unfold wordN; rw [List.takeWhile_cons_of_pos (by simp [hb])]; rfl
      rw [if_neg hb, ih, h0]
      by_cases hw : wordN l = l.length
      · rw [if_pos hw, if_pos (by rfl), if_pos (by rw [List.length_cons, hw])]
      · rw [if_neg hw, if_neg (by simp), if_neg (by rw [List.length_cons]; omega)]
        simp
theorem extract_list (s : ByteArray) (k : Nat) : (s.extract k s.size).data.toList = s.data.toList.drop k := by
  rw [ByteArray.data_extract, Array.toList_extract]
  have h : s.size = s.data.toList.length := by simp
  simp only [List.extract_eq_take_drop]
  rw [List.take_of_length_le]
  rw [List.length_drop]; omega
theorem piece_ev (s : ByteArray) (hs : s.size < 4294967281) : head_piece.f s = some (pieceN s.data.toList : Int) := by
  have hb : ((⟨#[32, 9]⟩ : ByteArray).data.toList) = [32, 9] := rfl
  have h1 : strings_TrimLeft.f s ⟨#[32, 9]⟩ = some (mkB (s.data.toList.drop (lead s.data.toList))) := by
    unfold strings_TrimLeft.f
    rw [if_pos ⟨hs, by decide, by decide⟩, hb, trimLeftS_lead]
  have hl := lead_le s.data.toList
  have hsz : (mkB (s.data.toList.drop (lead s.data.toList))).size = s.size - lead s.data.toList := by
    unfold mkB; rw [size_list]; simp
  have hw : wrap64 ((s.size : Int) - ((mkB (s.data.toList.drop (lead s.data.toList))).size : Int)) = (lead s.data.toList : Int) := by
    rw [hsz]; have := size_list s; unfold wrap64; omega
  have hsl := size_list s
  unfold head_piece.f
  rw [h1, Option.bind_some]
  simp only [hw]
  rw [if_pos (by omega), if_pos (by omega)]
  have h2 : strings_IndexAny.f (s.extract ((lead s.data.toList : Nat) : Int).toNat s.size) ⟨#[32, 9]⟩ = some (if wordN (s.data.toList.drop (lead s.data.toList)) = (s.data.toList.drop (lead s.data.toList)).length then -1 else (wordN (s.data.toList.drop (lead s.data.toList)) : Int)) := by
    unfold strings_IndexAny.f
    rw [Int.toNat_natCast, if_pos ⟨by rw [ByteArray.size_extract]; omega, by decide, by decide, by decide⟩, extract_list, hb, indexAny_word]
  rw [h2, Option.bind_some]
  unfold pieceN
  have hle := wordN_le (s.data.toList.drop (lead s.data.toList))
  have hdl : (s.data.toList.drop (lead s.data.toList)).length = s.size - lead s.data.toList := by simp
  by_cases hw2 : wordN (s.data.toList.drop (lead s.data.toList)) = (s.data.toList.drop (lead s.data.toList)).length
  · rw [if_pos hw2, if_neg (by omega)]
    congr 1; omega
  · rw [if_neg hw2, if_pos (by omega)]
    congr 1; unfold wrap64; omega
end Go.Proofs.YtjohcncekfcgpaaGreatDoor.P
end
section
set_option linter.unusedVariables false
namespace Go.Proofs.YtjohcncekfcgpaaGreatDoor.P
open Go.RowKit Go.Shelf Go.Proofs.YtjohcncekfcgpaaGreatDoorW.PrintWords Go.Proofs.YtjohcncekfcgpaaGreatDoorW.PrintLast
def showGo : Nat → List UInt8 → Nat → Bool → List UInt8
  | 0, _, _, _ => []
  | k + 1, s, a, first =>
    if s = [] then [] else
      if (!first && decide (78 < a + pieceN s)) = true then [13, 10] ++ s.take (pieceN s) ++ showGo k (s.drop (pieceN s)) (pieceN s) false
      else s.take (pieceN s) ++ showGo k (s.drop (pieceN s)) (a + pieceN s) false
def showV (v : List UInt8) : List UInt8 := if v = [] then [] else 32 :: v
def showL (name value : List UInt8) : List UInt8 := name ++ [58] ++ showGo (value.length + 2) (showV value) (name.length + 1) true ++ [13, 10]
def head_Show.f (a0_0 : ByteArray) (a0_1 : ByteArray) : Option (ByteArray) :=
  if a0_0.size < 1073741824 ∧ a0_1.size < 1073741824 then some (mkB (showL a0_0.data.toList a0_1.data.toList)) else none
theorem bLowA {T e : TypeId} {B b : Nat} {p : Value} {bs : List Value} {W W' : World} (h : Lib.BuilderAtF T e B b p bs W) (hb : Below W.heap.size W W') : Lib.BuilderAtF T e B b p bs W' := by
  have hlt := h.lt
  obtain ⟨hB, v, hv, hown, hne⟩ := h
  exact ⟨hB, v, (hb.block b hlt).trans hv, hown.kept (row := none) ⟨hb.os, hb.tape, hb.output, hb.size, fun k hk _ => hb.block k hk⟩ (Classical.em _), hne⟩
theorem bLow {T e : TypeId} {B b : Nat} {bs : List Value} {W W' : World} (h : Lib.IsBuilderF T e B b bs W) (hb : Below W.heap.size W W') : Lib.IsBuilderF T e B b bs W' :=
  h.elim (fun x => .inl (bLowA x hb)) (fun x => .inr (bLowA x hb))
theorem strCells_bytes (s : ByteArray) : Lib.strCells s = Lib.byteCells s.data.toList := by
  simp [Lib.strCells, Lib.byteCells]
theorem belowDown {B B' : Nat} {w W W' : World} (h1 : Below B w W) (h2 : Below B' W W') (hle : B ≤ B') (hB : B ≤ W.heap.size) : Below B w W' :=
  h1.trans ⟨h2.os, h2.tape, h2.output, h2.size, fun i hi => h2.block i (Nat.lt_of_lt_of_le hi hle)⟩
theorem showGo_len : ∀ (k : Nat) (s : List UInt8) (a : Nat) (first : Bool), (showGo k s a first).length ≤ 3 * s.length
  | 0, _, _, _ => by simp [showGo]
  | k + 1, s, a, first => by
    unfold showGo
    split
    · simp
    · rename_i hs
      have h1 := pieceN_pos s hs
      have h2 := pieceN_le s
      have h3 := fun a f => showGo_len k (s.drop (pieceN s)) a f
      simp only [List.length_drop] at h3
      split
      · have := h3 (pieceN s) false
        simp only [List.length_append, List.length_take, List.length_cons, List.length_nil]; omega
      · have := h3 (a + pieceN s) false
        simp only [List.length_append, List.length_take]; omega
set_option maxHeartbeats 8000000 in
set_option maxRecDepth 100000 in
theorem head_Show.calls (a0_0 : ByteArray) (a0_1 : ByteArray) (r : ByteArray) (w : World) (h : head_Show.f a0_0 a0_1 = some r) :
    Calls Tryz.prog 77 #[.agg #[.string a0_0, .string a0_1]] w fun e w' => e = .returned (.string r) ∧ Below w.heap.size w w' := by
  unfold head_Show.f at h
  split at h
  · rename_i hh
    obtain ⟨hn, hv⟩ := hh
    obtain rfl := Option.some.inj h
    clear h
    have hu := Tryz.underlying47
    obtain ⟨B, hB⟩ : ∃ B, B = w.heap.size + 1 := ⟨_, rfl⟩
    have hI0 : Lib.IsBuilderF 146 5 B B [] ((w.alloc (.cells #[.string a0_0, .string a0_1] 47)).alloc (.cells #[.pointer none, .slice none 0 0] 146)) := by
      have := Lib.IsBuilderF.of (Lib.fresh_isBuilder 146 5 (w.alloc (.cells #[.string a0_0, .string a0_1] 47)))
      rw [World.size_alloc] at this
      rw [hB]; exact this
    have hc0 : ((w.alloc (.cells #[.string a0_0, .string a0_1] 47)).alloc (.cells #[.pointer none, .slice none 0 0] 146)).heap[w.heap.size]? = some (.cells #[.string a0_0, .string a0_1] 47 (0, 0)) := by
      rw [Below.heap_alloc _ _ _ (by simp)]; exact heap_alloc_new w _
    have hb0 : Below w.heap.size w ((w.alloc (.cells #[.string a0_0, .string a0_1] 47)).alloc (.cells #[.pointer none, .slice none 0 0] 146)) := below_alloc (below_alloc (Below.refl _ _) _) _
    subst hB
    have I0 := Lib.hid hI0; have C0 := Lib.hid hc0; have D0 := Lib.hid hb0
    have hVs : w.heap.size + 1 ≤ ((w.alloc (.cells #[.string a0_0, .string a0_1] 47)).alloc (.cells #[.pointer none, .slice none 0 0] 146)).heap.size := by simp
    clear hI0 hc0 hb0
    have hname : (a0_0 ++ (⟨#[58]⟩ : ByteArray)).size ≤ 140737488355328 := by rw [ByteArray.size_append]; show a0_0.size + 1 ≤ _; omega
    have q1 : (9223372036854775807 < a0_0.size + 1) = False := eq_false (by omega)
    have q1b : (a0_0.size + 1 ≤ 9223372036854775807) = True := eq_true (by omega)
    have q1c : decide (a0_0.size + 1 ≤ 9223372036854775807) = true := decide_eq_true (by omega)
    have q2b : (1 + a0_1.size ≤ 9223372036854775807) = True := eq_true (by omega)
    have q2c : decide (1 + a0_1.size ≤ 9223372036854775807) = true := decide_eq_true (by omega)
    have q2 : (9223372036854775807 < 1 + a0_1.size) = False := eq_false (by omega)
    go_enter Tryz.func77, Tryz.ntmps77
    go_upto_if 18 with (first | (go_at_call 119; refine (bWriteString (w.heap.size + 1) (w.heap.size + 1) [] (a0_0 ++ (⟨#[58]⟩ : ByteArray)) _ I0.out (by simpa using hname) hVs).mono ?_; rintro e W1 ⟨rfl, h1, b1, _⟩; have hc1 := (b1.block w.heap.size (by omega)).trans C0.out; have c10 : W1.cell? ⟨w.heap.size, 0, none⟩ = some (.string a0_0) := (by simp [World.cell?, hc1]); have c11 : W1.cell? ⟨w.heap.size, 1, none⟩ = some (.string a0_1) := (by simp [World.cell?, hc1]); have B1 := Lib.hid b1; have H1 := Lib.hid h1; clear b1 h1 hc1))
    go_cut [5] (fun v5 wc => Aside0 (W1 = wc) ∧ ∃ s : ByteArray, v5 = .string s ∧ Aside0 (s.data.toList = showV a0_1.data.toList ∧ s.size ≤ a0_1.size + 1))
    case first =>
      have hcase : ∀ b : Bool, (!(a0_1.toList.isEmpty)) = b → (a0_1 = ⟨#[]⟩ ↔ b = false) := by
        intro b hb
        rw [← hb, Lib.toList_data]
        constructor
        · intro h; rw [h]; rfl
        · intro h
          have : a0_1.data.toList = [] := by simpa using h
          rw [← Lib.mk_data a0_1, this]
      have HC := Lib.hid hcase
      clear hcase
      go_wp2
      · have hx : (!(a0_1.toList.isEmpty)) = true := by assumption
        have hv0 : ¬ a0_1 = ⟨#[]⟩ := fun h => by have := (HC.out _ hx).1 h; cases this
        go_meet
        refine ⟨⟨rfl⟩, (⟨#[32]⟩ : ByteArray) ++ a0_1, rfl, ⟨?_, ?_⟩⟩
        · unfold showV
          rw [if_neg (fun h => hv0 (by rw [← Lib.mk_data a0_1, h]))]
          rw [ByteArray.data_append, Array.toList_append]
          rfl
        · rw [ByteArray.size_append]; show 1 + a0_1.size ≤ _; omega
      · have hx : (!(a0_1.toList.isEmpty)) = false := by assumption
        have hv0 : a0_1 = ⟨#[]⟩ := (HC.out _ hx).2 rfl
        go_meet
        refine ⟨⟨rfl⟩, ⟨#[]⟩, rfl, ⟨by rw [hv0]; unfold showV; rw [if_pos rfl], Nat.zero_le _⟩⟩
    case rest =>
      obtain ⟨⟨rfl⟩, s0, rfl, ⟨hs0, hs1⟩⟩ := hcut
      have HS0 := Aside0.mk hs0
      have HS1 := Aside0.mk hs1
      clear hs0 hs1
      obtain ⟨BODY, hBODY⟩ : ∃ X, X = a0_0.data.toList ++ [58] ++ showGo (a0_1.data.toList.length + 2) (showV a0_1.data.toList) (a0_0.data.toList.length + 1) true := ⟨_, rfl⟩
      have HBODY := Lib.hid hBODY
      clear hBODY
      have HVb := Lib.hid hVs
      clear hVs hname c10 c11
      go_wp2
      go_loopg [4, 5, 6] (a0_1.data.toList.length + 2) (fun kq v4 v5 v6 w' => ∃ (a : Nat) (s : ByteArray) (f : Bool) (out : List UInt8), v4 = .int .i64 (a : Int) ∧ v5 = .string s ∧ v6 = .bool f ∧ Aside0 (a + s.size ≤ 3000000000) ∧ Aside0 (s.size + 1 ≤ kq) ∧ Aside0 (out.length + 3 * s.size ≤ 10000000000) ∧ Aside0 (out ++ showGo kq s.data.toList a f = BODY) ∧ Aside0 (Lib.IsBuilderF 146 5 (w.heap.size + 1) (w.heap.size + 1) (Lib.byteCells out) w') ∧ Aside0 (Below w.heap.size w w') ∧ Aside0 (w.heap.size + 1 ≤ w'.heap.size))
      case atStart =>
        refine ⟨a0_0.size + 1, s0, true, a0_0.data.toList ++ [58], by have := wrapI a0_0.size (by omega); first | rfl | (rw [this]; done) | (simp; done) | simp_all, rfl, rfl, ⟨?_⟩, ⟨?_⟩, ⟨?_⟩, ⟨?_⟩, ⟨?_⟩, ⟨?_⟩, ⟨?_⟩⟩
        · have := HS1.out; omega
        · have := HS1.out; rw [← size_list a0_1]; omega
        · have := HS1.out; have := size_list a0_0; rw [List.length_append, ← this, List.length_singleton]; omega
        · rw [HBODY.out, ← size_list a0_0, HS0.out]
        · have := H1.out
          rw [List.nil_append, strCells_bytes, ByteArray.data_append, Array.toList_append] at this
          exact Or.inr this
        · exact belowDown D0.out B1.out (Nat.le_succ _) (Nat.le_of_succ_le HVb.out)
        · exact Nat.le_trans HVb.out B1.out.size
      case round =>
        clear I0 C0 D0 H1 B1 HVb
        obtain ⟨a, s, f, out, rfl, rfl, rfl, HA, HK, HL, HS, HI, HB, HZ⟩ := hrel
        have hk : gk ≠ 0 := by have := HK.out; omega
        obtain ⟨k1, rfl⟩ := Nat.exists_eq_succ_of_ne_zero hk
        by_cases hs0 : s = ⟨#[]⟩
        · subst hs0
          have hout : out = BODY := by
            have := HS.out
            have e : showGo (k1 + 1) ((⟨#[]⟩ : ByteArray).data.toList) a f = [] := by unfold showGo; rw [if_pos rfl]
            rw [e, List.append_nil] at this
            exact this
          have qs : ((⟨#[]⟩ : ByteArray).toList.isEmpty) = true := by rw [Lib.toList_data]; rfl
          have qs2 : (!(⟨#[]⟩ : ByteArray).toList.isEmpty) = false := by rw [qs]; rfl
          have HO := Lib.hid hout
          clear hout HS
          go_wp2_with (first | (go_at_call 119; refine (bWriteString (w.heap.size + 1) (w.heap.size + 1) (Lib.byteCells out) (⟨#[13, 10]⟩ : ByteArray) _ HI.out (by rw [Lib.byteCells_length]; have := HL.out; show out.length + 2 ≤ _; omega) HZ.out).mono ?_; rintro e W2 ⟨rfl, h2, b2, _⟩; have H2 := Lib.hid h2; have B2 := Lib.hid b2; clear h2 b2) | (go_at_call 112; refine (Tryz.Builder_String_any_k (w.heap.size + 1) (w.heap.size + 1) (out ++ [13, 10]) _ (by have := H2.out; rw [strCells_bytes, ← Lib.byteCells_append] at this; exact Or.inr this) (Nat.le_trans HZ.out B2.out.size)).mono ?_; rintro e W3 ⟨rfl, _, b3, _⟩; have B3 := Lib.hid b3; clear b3))
          go_ret
          refine ⟨?_, belowDown (belowDown HB.out B2.out (Nat.le_succ _) (Nat.le_of_succ_le HZ.out)) B3.out (Nat.le_succ _) (Nat.le_of_succ_le (Nat.le_trans HZ.out B2.out.size))⟩
          rw [HO.out, HBODY.out]
          rfl
        · have qs : (s.toList.isEmpty) = false := by
            rw [Lib.toList_data]
            cases h : s.data.toList with
            | nil => exact absurd (by rw [← Lib.mk_data s, h]) hs0
            | cons _ _ => rfl
          have qs2 : (!(s.toList.isEmpty)) = true := by rw [qs]; rfl
          have hsl : s.data.toList ≠ [] := fun h => hs0 (by rw [← Lib.mk_data s, h])
          obtain ⟨n, hn0⟩ : ∃ n, n = pieceN s.data.toList := ⟨_, rfl⟩
          have hn1 := pieceN_pos s.data.toList hsl
          have hn2 := pieceN_le s.data.toList
          rw [← hn0] at hn1 hn2
          rw [← size_list s] at hn2
          have hpe := piece_ev s (by have := HA.out; omega)
          rw [← hn0] at hpe
          have HP := Lib.hid hpe
          have hgo := HS.out
          unfold showGo at hgo
          rw [if_neg hsl, ← hn0] at hgo
          have HN := Lib.hid hn0
          clear hpe hn0 hsl HS
          have p1 : (0 ≤ (n : Int)) = True := eq_true (by omega)
          have p2 : ((n : Int) ≤ (s.size : Int)) = True := eq_true (by omega)
          have p3 : (n ≤ s.size) = True := eq_true hn2
          have hsz := HA.out
          have hL := HL.out
          have HX : Aside0 (a + s.size ≤ 3000000000 ∧ out.length + 3 * s.size ≤ 10000000000 ∧ s.size + 1 ≤ k1 + 1 ∧ 1 ≤ n ∧ n ≤ s.size) := ⟨⟨hsz, hL, HK.out, hn1, hn2⟩⟩
          have hda : wrap64 ((a : Int) + (n : Int)) = ((a + n : Nat) : Int) := by unfold wrap64; omega
          have HDA := Lib.hid hda
          clear hn1 hn2 hsz hL hda
          by_cases hb : (!f && decide (78 < a + n)) = true
          · rw [if_pos hb] at hgo
            have HG := Lib.hid hgo
            simp only [Bool.and_eq_true, Bool.not_eq_true', decide_eq_true_eq] at hb
            obtain ⟨rfl, hb78⟩ := hb
            have r1 : decide (78 < wrap64 ((a : Int) + (n : Int))) = true := by rw [HDA.out]; exact decide_eq_true (by omega)
            clear hgo hb78
            go_wp2_with (first | (go_at_call 132; (with_reducible refine (head_piece.calls s (n : Int) _ HP.out).mono ?_); rintro e W2 ⟨rfl, b2⟩; have I2 := Lib.hid (bLow HI.out b2); have B2 := Lib.hid (below_then HB.out HB.out.size b2); have Z2 := Aside0.mk (Nat.le_trans HZ.out b2.size); clear b2) | (go_at_call 119; (with_reducible refine (bWriteString (w.heap.size + 1) (w.heap.size + 1) (Lib.byteCells out) (⟨#[13, 10]⟩ : ByteArray) _ ?i3 ?l3 ?z3).mono ?_); (case i3 => exact I2.out); (case l3 => rw [Lib.byteCells_length]; have := HX.out; show out.length + 2 ≤ _; omega); (case z3 => exact Z2.out); rintro e W3 ⟨rfl, h3, b3, _⟩; have I3 := Lib.hid (show Lib.IsBuilderF 146 5 (w.heap.size + 1) (w.heap.size + 1) (Lib.byteCells (out ++ [13, 10])) W3 from (by rw [strCells_bytes, ← Lib.byteCells_append] at h3; exact Or.inr h3)); have B3 := Lib.hid (belowDown B2.out b3 (Nat.le_succ _) (Nat.le_of_succ_le Z2.out)); have Z3 := Aside0.mk (Nat.le_trans Z2.out b3.size); clear b3 h3) | (go_at_call 119; (with_reducible refine (bWriteString (w.heap.size + 1) (w.heap.size + 1) (Lib.byteCells (out ++ [13, 10])) (s.extract 0 n) _ ?i4 ?l4 ?z4).mono ?_); (case i4 => exact I3.out); (case l4 => rw [Lib.byteCells_length, ByteArray.size_extract]; have := HX.out; (try rw [List.length_append]); (try show out.length + 2 + _ ≤ _); omega); (case z4 => exact Z3.out); rintro e W4 ⟨rfl, h4, b4, _⟩; have I4 := Lib.hid (show Lib.IsBuilderF 146 5 (w.heap.size + 1) (w.heap.size + 1) (Lib.byteCells (out ++ [13, 10] ++ (s.extract 0 n).data.toList)) W4 from (by rw [strCells_bytes, ← Lib.byteCells_append] at h4; exact Or.inr h4)); have B4 := Lib.hid (belowDown B3.out b4 (Nat.le_succ _) (Nat.le_of_succ_le Z3.out)); have Z4 := Aside0.mk (Nat.le_trans Z3.out b4.size); clear b4 h4))
            go_roundg k1
            case measure => omega
            case rel =>
              refine ⟨n, s.extract n s.size, false, out ++ [13, 10] ++ (s.extract 0 n).data.toList, by have := HX.out; rw [show wrap64 (n : Int) = (n : Int) by unfold wrap64; omega], rfl, rfl, ⟨?_⟩, ⟨?_⟩, ⟨?_⟩, ⟨?_⟩, ⟨I4.out⟩, ⟨B4.out⟩, ⟨Z4.out⟩⟩
              · have := HX.out; rw [ByteArray.size_extract]; omega
              · have := HX.out; rw [ByteArray.size_extract]; omega
              · have := HX.out; have e := ex_list s 0 n; rw [ByteArray.size_extract, List.length_append, List.length_append, e, List.length_take, List.drop_zero]; show out.length + 2 + _ + _ ≤ _; omega
              · have hg := HG.out; rw [extract_list, ex_list, List.drop_zero, Nat.sub_zero]; rw [← hg]; simp only [List.append_assoc]
          · rw [if_neg hb] at hgo
            have HG := Lib.hid hgo
            clear hgo
            have HB0 := Lib.hid hb
            clear hb
            cases f with
            | true =>
              go_wp2_with (first | (go_at_call 132; (with_reducible refine (head_piece.calls s (n : Int) _ HP.out).mono ?_); rintro e W2 ⟨rfl, b2⟩; have I2 := Lib.hid (bLow HI.out b2); have B2 := Lib.hid (below_then HB.out HB.out.size b2); have Z2 := Aside0.mk (Nat.le_trans HZ.out b2.size); clear b2) | (go_at_call 119; (with_reducible refine (bWriteString (w.heap.size + 1) (w.heap.size + 1) (Lib.byteCells (out)) (s.extract 0 n) _ ?i4 ?l4 ?z4).mono ?_); (case i4 => exact I2.out); (case l4 => rw [Lib.byteCells_length, ByteArray.size_extract]; have := HX.out; (try rw [List.length_append]); (try show out.length + 2 + _ ≤ _); omega); (case z4 => exact Z2.out); rintro e W4 ⟨rfl, h4, b4, _⟩; have I4 := Lib.hid (show Lib.IsBuilderF 146 5 (w.heap.size + 1) (w.heap.size + 1) (Lib.byteCells (out ++ (s.extract 0 n).data.toList)) W4 from (by rw [strCells_bytes, ← Lib.byteCells_append] at h4; exact Or.inr h4)); have B4 := Lib.hid (belowDown B2.out b4 (Nat.le_succ _) (Nat.le_of_succ_le Z2.out)); have Z4 := Aside0.mk (Nat.le_trans Z2.out b4.size); clear b4 h4))
              go_roundg k1
              case measure => omega
              case rel =>
                refine ⟨a + n, s.extract n s.size, false, out ++ (s.extract 0 n).data.toList, by first | rfl | (rw [HDA.out]; done) | (simp only [HDA.out]; done), rfl, rfl, ⟨?_⟩, ⟨?_⟩, ⟨?_⟩, ⟨?_⟩, ⟨I4.out⟩, ⟨B4.out⟩, ⟨Z4.out⟩⟩
                · have := HX.out; rw [ByteArray.size_extract]; omega
                · have := HX.out; rw [ByteArray.size_extract]; omega
                · have := HX.out; have e := ex_list s 0 n; rw [ByteArray.size_extract, List.length_append, e, List.length_take, List.drop_zero]; omega
                · have hg := HG.out; rw [extract_list, ex_list, List.drop_zero, Nat.sub_zero]; rw [← hg]; simp only [List.append_assoc]
            | false =>
              have r1 : decide (78 < wrap64 ((a : Int) + (n : Int))) = false := by
                rw [HDA.out]; have hb := HB0.out; simp only [Bool.not_false, Bool.true_and, decide_eq_true_eq] at hb; exact decide_eq_false (by omega)
              go_wp2_with (first | (go_at_call 132; (with_reducible refine (head_piece.calls s (n : Int) _ HP.out).mono ?_); rintro e W2 ⟨rfl, b2⟩; have I2 := Lib.hid (bLow HI.out b2); have B2 := Lib.hid (below_then HB.out HB.out.size b2); have Z2 := Aside0.mk (Nat.le_trans HZ.out b2.size); clear b2) | (go_at_call 119; (with_reducible refine (bWriteString (w.heap.size + 1) (w.heap.size + 1) (Lib.byteCells (out)) (s.extract 0 n) _ ?i4 ?l4 ?z4).mono ?_); (case i4 => exact I2.out); (case l4 => rw [Lib.byteCells_length, ByteArray.size_extract]; have := HX.out; (try rw [List.length_append]); (try show out.length + 2 + _ ≤ _); omega); (case z4 => exact Z2.out); rintro e W4 ⟨rfl, h4, b4, _⟩; have I4 := Lib.hid (show Lib.IsBuilderF 146 5 (w.heap.size + 1) (w.heap.size + 1) (Lib.byteCells (out ++ (s.extract 0 n).data.toList)) W4 from (by rw [strCells_bytes, ← Lib.byteCells_append] at h4; exact Or.inr h4)); have B4 := Lib.hid (belowDown B2.out b4 (Nat.le_succ _) (Nat.le_of_succ_le Z2.out)); have Z4 := Aside0.mk (Nat.le_trans Z2.out b4.size); clear b4 h4))
              go_roundg k1
              case measure => omega
              case rel =>
                refine ⟨a + n, s.extract n s.size, false, out ++ (s.extract 0 n).data.toList, by first | rfl | (rw [HDA.out]; done) | (simp only [HDA.out]; done), rfl, rfl, ⟨?_⟩, ⟨?_⟩, ⟨?_⟩, ⟨?_⟩, ⟨I4.out⟩, ⟨B4.out⟩, ⟨Z4.out⟩⟩
                · have := HX.out; rw [ByteArray.size_extract]; omega
                · have := HX.out; rw [ByteArray.size_extract]; omega
                · have := HX.out; have e := ex_list s 0 n; rw [ByteArray.size_extract, List.length_append, e, List.length_take, List.drop_zero]; omega
                · have hg := HG.out; rw [extract_list, ex_list, List.drop_zero, Nat.sub_zero]; rw [← hg]; simp only [List.append_assoc]
  · exact absurd h (by simp)
end Go.Proofs.YtjohcncekfcgpaaGreatDoor.P
end
section
set_option linter.unusedVariables false
namespace Go.Proofs.YtjohcncekfcgpaaGreatDoor.P
open Go.RowKit Go.Shelf Go.Proofs.YtjohcncekfcgpaaGreatDoorW.PrintWords Go.Proofs.YtjohcncekfcgpaaGreatDoorW.PrintLast Go.Proofs.YtjohcncekfcgpaaGreatDoorW.PrintMore
def fieldOk (x : S47) : Bool := decide (x.f0.size < 1073741824) && decide (x.f1.size < 1073741824)
def showF (x : S47) : List UInt8 := showL x.f0.data.toList x.f1.data.toList
def printL (l : List (S47)) : List UInt8 := (l.map showF).flatten
def head_Print.f (l0 : List (S47)) : Option (ByteArray) := if l0.length ≤ 10000 ∧ l0.all fieldOk = true then some (mkB (printL l0)) else none
theorem showF_len (x : S47) (h : fieldOk x = true) : (showF x).length ≤ 10000000000 := by
  simp only [fieldOk, Bool.and_eq_true, decide_eq_true_eq] at h
  have h1 := size_list x.f0
  have h2 := size_list x.f1
  have h3 := showGo_len (x.f1.data.toList.length + 2) (showV x.f1.data.toList) (x.f0.data.toList.length + 1) true
  have h4 : (showV x.f1.data.toList).length ≤ x.f1.data.toList.length + 1 := by unfold showV; split <;> simp
  unfold showF showL
  simp only [List.length_append, List.length_cons, List.length_nil]
  omega
theorem showF_f (x : S47) (h : fieldOk x = true) : head_Show.f x.f0 x.f1 = some (mkB (showF x)) := by
  simp only [fieldOk, Bool.and_eq_true, decide_eq_true_eq] at h
  unfold head_Show.f
  rw [if_pos h]; rfl
theorem rd_T_at (l : List (S47)) (i : Nat) (h : i < l.length) : rd_T47 l (i : Int) = l[i] := by
  unfold rd_T47
  rw [Int.toNat_natCast, List.getD_eq_getElem?_getD, List.getElem?_eq_getElem h]; rfl
theorem printL_len (l : List (S47)) (h : l.all fieldOk = true) : (printL l).length ≤ l.length * 10000000000 := by
  induction l with
  | nil => simp [printL]
  | cons x l ih =>
    simp only [List.all_cons, Bool.and_eq_true] at h
    have h1 := showF_len x h.1
    have h2 := ih h.2
    unfold printL at h2 ⊢
    simp only [List.map_cons, List.flatten_cons, List.length_append, List.length_cons]
    omega
set_option maxHeartbeats 8000000 in
set_option maxRecDepth 100000 in
theorem head_Print.calls (A0 : Option Addr) (c0 : Nat) (l0 : List (S47)) (r : ByteArray) (w : World) (hr0 : Kd.C k47 w A0 l0.length l0) (hc0 : l0.length ≤ c0) (h : head_Print.f l0 = some r) :
    Calls Tryz.prog 63 #[.slice A0 l0.length c0] w fun e w' => e = .returned (.string r) ∧ Below w.heap.size w w' := by
  unfold head_Print.f at h
  split at h
  · rename_i hh
    obtain ⟨hlen, hall⟩ := hh
    obtain rfl := Option.some.inj h
    clear h
    have HALL := Aside0.mk hall
    have HLEN := Aside0.mk hlen
    have hu := Tryz.underlying47
    have HR0 := Aside0.mk hr0
    clear hr0 hall
    obtain ⟨B, hB⟩ : ∃ B, B = w.heap.size := ⟨_, rfl⟩
    have hI0 : Lib.IsBuilderF 146 5 B B [] (w.alloc (.cells #[.pointer none, .slice none 0 0] 146)) := by
      rw [hB]; exact Lib.IsBuilderF.of (Lib.fresh_isBuilder 146 5 w)
    have hb0 : Below w.heap.size w (w.alloc (.cells #[.pointer none, .slice none 0 0] 146)) := below_alloc (Below.refl _ _) _
    subst hB
    have I0 := Lib.hid hI0; have D0 := Lib.hid hb0
    clear hI0 hb0
    go_enter Tryz.func63, Tryz.ntmps63
    go_wp2
    go_loopg [8] (l0.length + 1) (fun kq v8 w' => ∃ i : Nat, v8 = .int .i64 (i : Int) ∧ Aside0 (i ≤ l0.length) ∧ Aside0 (l0.length + 1 - i = kq) ∧ Aside0 (Lib.IsBuilderF 146 5 w.heap.size w.heap.size (Lib.byteCells (printL (l0.take i))) w') ∧ Aside0 (Below w.heap.size w w') ∧ Aside0 (w.heap.size ≤ w'.heap.size))
    case atStart => exact ⟨0, rfl, ⟨Nat.zero_le _⟩, ⟨by omega⟩, ⟨by have := I0.out; simpa [printL, Lib.byteCells] using this⟩, ⟨D0.out⟩, ⟨D0.out.size⟩⟩
    case round =>
      clear I0 D0
      obtain ⟨i, rfl, HI, HK, HBu, HB, HZ⟩ := hrel
      by_cases hlt : i < l0.length
      · have c3b0 : decide ((i : Int) < (l0.length : Int)) = true := decide_eq_true (by omega)
        have c3b1 : decide (i < l0.length) = true := decide_eq_true hlt
        have HLT := Aside0.mk hlt
        obtain ⟨ad, e1, hx0, hx1⟩ := at_T47 HR0.out (i : Int) (Int.natCast_nonneg _) (by omega)
        cases e1
        replace hx0 := (HB.out.cell (World.block_lt_of_cell? w _ hx0)).trans hx0
        replace hx1 := (HB.out.cell (World.block_lt_of_cell? w _ hx1)).trans hx1
        rw [rd_T_at l0 i hlt] at hx0 hx1
        rw [Int.toNat_natCast] at hx0 hx1
        obtain ⟨x, hx⟩ : ∃ x, x = l0[i] := ⟨_, rfl⟩
        rw [← hx] at hx0 hx1
        have hok : fieldOk x = true := by rw [hx]; exact List.all_eq_true.1 HALL.out _ (List.getElem_mem hlt)
        have HS := Aside0.mk (showF_f x hok)
        have HSL := Aside0.mk (showF_len x hok)
        have HX := Aside0.mk hx
        have HPL : Aside0 ((printL (l0.take i)).length ≤ 100000000000000) := ⟨by
          have := printL_len (l0.take i) (by rw [List.all_eq_true]; intro y hy; exact List.all_eq_true.1 HALL.out y (List.mem_of_mem_take hy))
          rw [List.length_take] at this
          have := HLEN.out
          omega⟩
        clear hok hx
        have p1 : (0 ≤ (i : Int)) = True := eq_true (by omega)
        have p2 : ((i : Int) < (l0.length : Int)) = True := eq_true (by omega)
        go_wp2_with (first | ((with_reducible refine gate_dst (N := 5) rfl ?_); refine boxE 5 #[.string (⟨#[]⟩ : ByteArray), .string (⟨#[]⟩ : ByteArray)] 47 ?_; intro gb hg w1 hbox hb; have BK := Aside0.mk hbox; have HB1 := Aside0.mk hb; have GE := Aside0.mk (Nat.le_of_eq hg.symm); clear hb hbox hg; have hcz0 : w1.cell? ⟨gb, 0, none⟩ = some (.string (⟨#[]⟩ : ByteArray)) := (blk_cell BK.out 0).trans rfl; have hcz1 : w1.cell? ⟨gb, 1, none⟩ = some (.string (⟨#[]⟩ : ByteArray)) := (blk_cell BK.out 1).trans rfl; have hfz0 := blk_frozen BK.out 0; have hfz1 := blk_frozen BK.out 1) | ((with_reducible refine gate_callee (f := 77) rfl ?_); refine goesM (some 13) Tryz.func77 #[.agg #[.string x.f0, .string x.f1]] ?_; (with_reducible refine (head_Show.calls x.f0 x.f1 _ _ HS.out).mono ?_); rintro e w2 ⟨rfl, hb2⟩; refine ⟨_, rfl, ?_⟩; have HB2 := Aside0.mk (below_step bw hb2); have I2 := Aside0.mk (bLow HBu.out HB2.out); clear hb2) | ((with_reducible refine gate_callee (f := 119) rfl ?_); refine goesM (some 14) Tryz.func119 #[.pointer (some ⟨w.heap.size, 0, none⟩), .string (mkB (showF x))] ?_; (with_reducible refine (bWriteString w.heap.size w.heap.size (Lib.byteCells (printL (l0.take i))) (mkB (showF x)) _ ?i3 ?l3 ?z3).mono ?_); (case i3 => exact I2.out); (case l3 => rw [Lib.byteCells_length, mkB_size]; have := HPL.out; have := HSL.out; omega); (case z3 => exact Nat.le_trans HZ.out HB2.out.size); rintro e w3 ⟨rfl, h3, b3, _⟩; refine ⟨_, rfl, ?_⟩; have I3 := Aside0.mk h3; have B3 := Aside0.mk b3; clear h3 b3))
        go_roundg (l0.length + 1 - (i + 1))
        case measure => have := HK.out; have := HLT.out; omega
        case rel =>
          have hB2 : Below w.heap.size w w2 := below_then HB.out HZ.out HB2.out
          refine ⟨i + 1, by go_num, ⟨by have := HLT.out; omega⟩, ⟨rfl⟩, ⟨Or.inr ?_⟩, ⟨hB2.trans B3.out⟩, ⟨Nat.le_trans (Nat.le_trans HZ.out HB2.out.size) B3.out.size⟩⟩
          have h3 := I3.out
          rw [strCells_bytes, mkB_list, ← Lib.byteCells_append] at h3
          have e : printL (l0.take (i + 1)) = printL (l0.take i) ++ showF x := by
            rw [HX.out, List.take_succ_eq_append_getElem HLT.out]
            simp only [printL, List.map_append, List.flatten_append, List.map_cons, List.map_nil, List.flatten_cons, List.flatten_nil, List.append_nil]
          rw [e]; exact h3
      · have c3b0 : decide ((i : Int) < (l0.length : Int)) = false := decide_eq_false (by omega)
        have c3b1 : decide (i < l0.length) = false := decide_eq_false hlt
        have HN : Aside0 (i = l0.length) := ⟨by have := HI.out; omega⟩
        clear hlt
        go_wp2_with (first | ((with_reducible refine gate_callee (f := 112) rfl ?_); refine goesM (some 16) Tryz.func112 #[.pointer (some ⟨w.heap.size, 0, none⟩)] ?_; refine (Tryz.Builder_String_any_k w.heap.size w.heap.size (printL (l0.take i)) _ HBu.out HZ.out).mono ?_; rintro e w3 ⟨rfl, _, b3, _⟩; refine ⟨_, rfl, ?_⟩; have B3 := Aside0.mk b3; clear b3))
        go_ret
        refine ⟨?_, HB.out.trans B3.out⟩
        rw [HN.out, List.take_length]
        rfl
  · exact absurd h (by simp)
end Go.Proofs.YtjohcncekfcgpaaGreatDoor.P
end
section
set_option linter.unusedVariables false
namespace Go.Proofs.YtjohcncekfcgpaaGreatDoor.P
open Go.RowKit Go.Proofs.YtjohcncekfcgpaaGreatDoorW.PrintWords
def refL : List UInt8 → List UInt8 → List (List UInt8)
  | [], w => if w = [] then [] else [w]
  | b :: l, w => if [13, 10].isPrefixOf (b :: l) = true then w :: (match l with | [] => [] | _ :: l' => refL l' []) else refL l (w ++ [b])
termination_by l _ => l.length
def linesL (s : List UInt8) : List (List UInt8) := refL s []
theorem pre2 (b : UInt8) (l : List UInt8) : [13, 10].isPrefixOf (b :: l) = true ↔ b = 13 ∧ ∃ l', l = 10 :: l' := by
  cases l with
  | nil => simp
  | cons c l =>
    simp
    constructor
    · rintro ⟨h1, h2⟩; exact ⟨h1.symm, h2.symm⟩
    · rintro ⟨h1, h2⟩; exact ⟨h1.symm, h2.symm⟩
theorem ref16_l0 (s : ByteArray) (hs : s.size ≤ 1000000000000) : ∀ (n : Nat) (l w : List UInt8) (out : List ByteArray) (i : Nat), l.length ≤ n → s.data.toList.drop i = l → i ≤ s.size → w.length + l.length ≤ s.size → out.length + l.length ≤ s.size →
    Ev (fun k => bulletinref16_Lines.l0 k out (mkB w) s (i : Int)) (out ++ (refL l w).map mkB) := by
  intro n
  induction n with
  | zero =>
    intro l w out i hn hl hi hw ho
    obtain rfl : l = [] := List.length_eq_zero_iff.1 (by omega)
    refine Ev.step (fun k => by rw [bulletinref16_Lines.l0]) ?_
    have := suf_nil hl
    refine Ev.neg (by omega) ?_
    unfold refL
    by_cases hw0 : w = []
    · subst hw0
      refine Ev.pos (by rw [toList_data]; rfl) ?_
      exact Ev.const (by simp)
    · refine Ev.neg (by rw [toList_data]; exact hw0) ?_
      refine Ev.pos (by simp at ho; omega) ?_
      exact Ev.const (by rw [if_neg hw0]; rfl)
  | succ n ih =>
    intro l w out i hn hl hi hw ho
    cases l with
    | nil => exact Ev.eq (ih [] w out i (by simp) hl hi hw ho) rfl
    | cons b l =>
      obtain ⟨h1, h2, h3⟩ := suf_cons hl
      simp only [List.length_cons] at hn hw ho
      have hw1 : wrap64 ((i : Int) + 1) = ((i + 1 : Nat) : Int) := wN h1 hs
      have hex : s.extract (i : Int).toNat (((i + 1 : Nat) : Int)).toNat = mkB [b] := by rw [Int.toNat_natCast, Int.toNat_natCast]; exact ex_one hl
      have goOn : Ev (fun k => if (i : Int) ≤ ((i + 1 : Nat) : Int) then (if ((i + 1 : Nat) : Int) ≤ (s.size : Int) then (if (mkB w).size + (mkB [b]).size ≤ 9223372036854775807 then (bulletinref16_Lines.l0 k out (mkB w ++ mkB [b]) s ((i + 1 : Nat) : Int)) else (none)) else (none)) else (none)) (out ++ (refL l (w ++ [b])).map mkB) := by
        refine Ev.pos (by omega) (Ev.pos (by omega) (Ev.pos (by rw [mkB_size, mkB_size, List.length_singleton]; omega) ?_))
        rw [mkB_app]
        exact ih l (w ++ [b]) out (i + 1) (by omega) h3 (by omega) (by rw [List.length_append, List.length_singleton]; omega) (by omega)
      refine Ev.step (fun k => by rw [bulletinref16_Lines.l0]) ?_
      simp only [hw1, hex]
      clear hw1 hex
      refine Ev.pos (by omega) (Ev.pos (by omega) ?_)
      rw [h2]
      unfold refL
      by_cases hp : [13, 10].isPrefixOf (b :: l) = true
      · rw [if_pos hp]
        obtain ⟨rfl, l', rfl⟩ := (pre2 b l).1 hp
        simp only [List.length_cons] at hn hw ho
        obtain ⟨h4, h5, h6⟩ := suf_cons h3
        have f1 : ((i + 1 : Nat) : Int) < (s.size : Int) := by omega
        have f2 : (0 : Int) ≤ ((i + 1 : Nat) : Int) := by omega
        have f3 : out.length < 8796093022208 := by omega
        have f4 : bt s ((i + 1 : Nat) : Int) = 10 := by rw [h5]; rfl
        clear goOn
        refine Ev.pos (by rfl) ?_
        refine Ev.pos f1 ?_
        refine Ev.pos f2 ?_
        refine Ev.pos f4 ?_
        refine Ev.pos f3 ?_
        simp only [wN h4 hs]
        refine Ev.eq (ih l' [] (out ++ [mkB w]) (i + 2) (by omega) h6 (by omega) (by rw [List.length_nil]; omega) (by rw [List.length_append, List.length_singleton]; omega)) ?_
        simp
      · rw [if_neg hp]
        by_cases hb : b = 13
        · subst hb
          refine Ev.pos (by rfl) ?_
          cases l with
          | nil =>
            have := suf_nil h3
            exact Ev.neg (by omega) goOn
          | cons c l' =>
            obtain ⟨h4, h5, h6⟩ := suf_cons h3
            have hc : c ≠ 10 := fun h => hp ((pre2 13 (c :: l')).2 ⟨rfl, l', by rw [h]⟩)
            refine Ev.pos (by omega) (Ev.pos (by omega) (Ev.neg ?_ goOn))
            rw [h5]
            exact fun h => hc ((u8_eq (n := 10) (by decide)).1 h)
        · exact Ev.neg (fun h => hb ((u8_eq (n := 13) (by decide)).1 h)) goOn
theorem ref16_Lines_ev (fs : List (S70)) (s : ByteArray) (hs : s.size ≤ 1000000000000) : Ev (fun k => bulletinref16_Lines.f k fs s) ((linesL s.data.toList).map mkB) := by
  unfold bulletinref16_Lines.f
  exact ref16_l0 s hs s.data.toList.length s.data.toList [] [] 0 (Nat.le_refl _) rfl (by omega) (by simp) (by simp)
theorem refL_cut : ∀ (n : Nat) (l w : List UInt8), l.length ≤ n → w ++ l ≠ [] → refL l w = (w ++ (cutL l).1) :: linesL (cutL l).2.1 := by
  intro n
  induction n with
  | zero =>
    intro l w hn hne
    obtain rfl : l = [] := List.length_eq_zero_iff.1 (by omega)
    unfold refL cutL linesL
    rw [List.append_nil] at hne
    rw [if_neg hne]
    unfold refL
    simp
  | succ n ih =>
    intro l w hn hne
    cases l with
    | nil => exact ih [] w (by simp) hne
    | cons b l =>
      unfold refL cutL
      by_cases hp : [13, 10].isPrefixOf (b :: l) = true
      · rw [if_pos hp, if_pos hp]
        obtain ⟨rfl, l', rfl⟩ := (pre2 b l).1 hp
        simp [linesL]
      · rw [if_neg hp, if_neg hp, ih l (w ++ [b]) (by simp at hn; omega) (by simp)]
        simp
theorem linesL_cut (l : List UInt8) (h : l ≠ []) : linesL l = (cutL l).1 :: linesL (cutL l).2.1 := by
  have := refL_cut l.length l [] (Nat.le_refl _) (by simpa using h)
  simpa [linesL] using this
theorem linesL_nil : linesL [] = [] := by unfold linesL refL; rfl
theorem cut_ev (s : ByteArray) (hs : s.size < 4294967281) : strings_Cut.f s (⟨#[13, 10]⟩ : ByteArray) = some (mkB (cutL s.data.toList).1, mkB (cutL s.data.toList).2.1, (cutL s.data.toList).2.2) := by
  unfold strings_Cut.f
  rw [if_pos hs, show ((⟨#[13, 10]⟩ : ByteArray).data.toList) = [13, 10] from rfl, cut_cutL]
theorem msg_l0 : ∀ (n : Nat) (l : List UInt8) (out : List ByteArray), l.length ≤ n → out.length + l.length ≤ 4000000000 →
    Ev (fun k => msg_Message_Lines.l0 k out (mkB l)) (out ++ (linesL l).map mkB) := by
  intro n
  induction n with
  | zero =>
    intro l out hn ho
    obtain rfl : l = [] := List.length_eq_zero_iff.1 (by omega)
    refine Ev.step (fun k => by rw [msg_Message_Lines.l0]) ?_
    refine Ev.pos (by rw [toList_data]; rfl) ?_
    exact Ev.const (by rw [linesL_nil]; simp)
  | succ n ih =>
    intro l out hn ho
    by_cases hl : l = []
    · subst hl; exact ih [] out (by simp) ho
    · refine Ev.step (fun k => by rw [msg_Message_Lines.l0]) ?_
      refine Ev.neg (by rw [toList_data]; exact hl) ?_
      refine Ev.bindc (cut_ev (mkB l) (by rw [mkB_size]; omega)) ?_
      obtain ⟨c1, c2, c3⟩ := cutL_len l
      refine Ev.pos (by omega) ?_
      simp only [mkB_list]
      refine Ev.eq (ih (cutL l).2.1 (out ++ [mkB (cutL l).1]) (by have := c2 hl; omega) (by have := c2 hl; simp; omega)) ?_
      rw [linesL_cut l hl]
      simp
theorem msg_Lines_ev (fs : List (S47)) (s : ByteArray) (hs : s.size ≤ 4000000000) : Ev (fun k => msg_Message_Lines.f k fs s) ((linesL s.data.toList).map mkB) := by
  unfold msg_Message_Lines.f
  have := msg_l0 s.data.toList.length s.data.toList [] (Nat.le_refl _) (by rw [size_list] at hs; simpa using hs)
  rw [mkB_of] at this
  exact this
theorem sameTexts_l0 (a : List ByteArray) (ha : a.length ≤ 1000000000000) : ∀ (n i : Nat), a.length - i ≤ n → i ≤ a.length → Ev (fun k => bulletinbook_SameTexts.l0 k a a true (i : Int)) true := by
  intro n
  induction n with
  | zero =>
    intro i hn hi
    refine Ev.step (fun k => by rw [bulletinbook_SameTexts.l0]) ?_
    exact Ev.pos rfl (Ev.neg (by omega) (Ev.const rfl))
  | succ n ih =>
    intro i hn hi
    refine Ev.step (fun k => by rw [bulletinbook_SameTexts.l0]) ?_
    refine Ev.pos rfl ?_
    by_cases h : i < a.length
    · refine Ev.pos (by omega) (Ev.pos (by omega) (Ev.pos (by omega) ?_))
      have hw1 : wrap64 ((i : Int) + 1) = ((i + 1 : Nat) : Int) := wN h ha
      simp only [hw1, beq_self_eq_true]
      exact ih (i + 1) (by omega) (by omega)
    · exact Ev.neg (by omega) (Ev.const rfl)
theorem sameTexts_ev (a : List ByteArray) (ha : a.length ≤ 1000000000000) : Ev (fun k => bulletinbook_SameTexts.f k a a) true := by
  unfold bulletinbook_SameTexts.f
  simp only [beq_self_eq_true]
  exact sameTexts_l0 a ha a.length 0 (by omega) (by omega)
end Go.Proofs.YtjohcncekfcgpaaGreatDoor.P
end
