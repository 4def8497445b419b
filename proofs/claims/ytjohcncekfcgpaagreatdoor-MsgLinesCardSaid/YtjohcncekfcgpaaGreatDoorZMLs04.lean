/- A part of the proof of the card of MsgLines. -/
import Derived.Deep.Slices
import Derived.Deep.Fields
import Derived.ChangeSame
import Derived.Lib.SmallJoins
import Derived.KernelRfl
import Derived.Lib.Hide
import Derived.Shelf.Unicode.DecodeSlow
import Derived.WalkKit
import Derived.BigCall
import Derived.RangeFuncNested
import Derived.RangeFuncBound
import Derived.RangeFuncCalls
import Derived.RangeFuncLeaves
import Derived.Shelf.Abstract
import Derived.Shelf.RegionOpen
import Derived.OwnWalkIn
import Derived.TacticsInMore
import Derived.LoopNIn
import Derived.LoopIn
import Derived.Lib.IndexMore
import Derived.Shelf.Strings.SlTrimAscii
import Derived.Laws.Runes
import Derived.WalkLawsBesides
import Derived.Lib.Split
import Derived.Test.YtjohcncekfcgpaaGreatDoorZMLs02
import Derived.Test.YtjohcncekfcgpaaGreatDoorZMLs03
set_option linter.unusedVariables false
set_option linter.unusedSimpArgs false
section
set_option linter.unusedVariables false
namespace Go.Proofs.YtjohcncekfcgpaaGreatDoor.P
open Go.ChangeShapes Go.WideShapes Go.Deep Go.Joins Go.RowKit Go.Proofs.YtjohcncekfcgpaaGreatDoorW.PrintWords
section
variable {H : Type} {enc : TypeId × Value → H} {P : Program} {w : World} {base : Nat} {spare : Nat → Bool} {held : Bool}
theorem open_slice_fields {t e : TypeId} {fs : Array Field} {fuel : Nat} {cs : List Value} {x : DataW H × List MemPlace} (ht : P.underlying t = some (.slice e)) (he : P.underlying e = some (.struct fs))
    (hone : oneCellFields P fs = true) (hC : P.cellsOf e = fs.size) (h : DataW.trod enc P w base spare held fuel t cs = some x) :
    cs = [.slice none 0 0] ∨
    ∃ (a : Addr) (len cap m : Nat), cs = [.slice (some a) len cap] ∧ len ≤ cap ∧ cap ≤ maxLen ∧ len ≤ m ∧
      ∀ i, i < m → ∃ (n : Nat), ∀ (j : Nat) (f : Field), fs[j]? = some f → ∃ (v : Value) (y : DataW H × List MemPlace), w.cell? (a.add (i * fs.size + j)) = some v ∧ DataW.trod enc P w base spare held n f.type [v] = some y := by
  rcases open_slice ht h with h0 | ⟨a, len, cap, m, n, D, Pl, hcs, hb, hl, hm, hmm, hx, hi⟩
  · exact .inl h0.1
  · refine .inr ⟨a, len, cap, m, hcs, hl, hm, by rw [hmm]; split <;> omega, fun i him => ?_⟩
    obtain ⟨cs', hc, ht'⟩ := hi i him
    rw [hC] at hc
    obtain ⟨ys, n', hn', hy, hlen, hyl, hf⟩ := DataW.trod_struct he ht'
    obtain ⟨_, hcl, hat⟩ := World.cells?_some hc
    refine ⟨n', fun j f hj => ?_⟩
    obtain ⟨ho, hk⟩ := hone_of hone j f hj
    have hjl : j < fs.size := (Array.getElem?_eq_some_iff.1 hj).1
    have hcell := hat j hjl
    have hv : cs'[j]? = some (cs'[j]'(by omega)) := List.getElem?_eq_getElem (by omega)
    have h1 := hf j f hj
    rw [ho, hk] at h1
    have hone' : (cs'.drop j).take 1 = [cs'[j]'(by omega)] := by
      rw [List.drop_eq_getElem_cons (by omega)]
      rfl
    rw [hone'] at h1
    have hys : ys[j]? = some (ys[j]'(by omega)) := List.getElem?_eq_getElem (by omega)
    refine ⟨_, _, ?_, h1.trans hys⟩
    rw [← Go.Deep.add_add, hcell, hv]
end
section
variable {H : Type} {enc : TypeId × Value → H} {w : World} {base : Nat} {spare : Nat → Bool} {held : Bool}
theorem one_string {n : Nat} {v : Value} {y : DataW H × List MemPlace} (h : DataW.trod enc Tryz.prog w base spare held n 9 [v] = some y) : ∃ s : ByteArray, v = .string s ∧ s.size ≤ maxLen := by
  obtain ⟨s, hs, _, hz⟩ := DataW.trod_string Tryz.underlying9 h
  exact ⟨s, by simpa using hs, hz⟩
set_option maxRecDepth 100000 in
theorem open_fields {n : Nat} {v : Value} {y : DataW H × List MemPlace} (h : DataW.trod enc Tryz.prog w base spare held n 29 [v] = some y) :
    ∃ (A : Option Addr) (c : Nat) (l : List (S70)), v = .slice A l.length c ∧ Kd.C k70 w A l.length l ∧ l.length ≤ c := by
  rcases open_slice_fields Tryz.underlying29 Tryz.underlying70 (by kernel_rfl) (by kernel_rfl) h with hcs | ⟨a, len, cap, m, hcs, hl, hm, hmm, hi⟩
  · have hv : v = .slice none 0 0 := by simpa using hcs
    exact ⟨none, 0, [], hv, ⟨rfl, by simp, fun h => absurd h (by simp)⟩, Nat.le_refl _⟩
  · have hv : v = .slice (some a) len cap := by simpa using hcs
    have key : ∀ i, i < len → ∃ x : S70, w.cell? (a.add (i * 2)) = some (.string x.f0) ∧ w.cell? (a.add (i * 2 + 1)) = some (.string x.f1) := by
      intro i hlt
      obtain ⟨n', hf⟩ := hi i (by omega)
      obtain ⟨v0, y0, c0, t0⟩ := hf 0 _ rfl
      obtain ⟨v1, y1, c1, t1⟩ := hf 1 _ rfl
      obtain ⟨s0, rfl, _⟩ := one_string t0
      obtain ⟨s1, rfl, _⟩ := one_string t1
      exact ⟨⟨s0, s1⟩, c0, c1⟩
    have hlen : ((List.range len).map fun i => if h : i < len then Classical.choose (key i h) else z70).length = len := by simp
    refine ⟨some a, cap, (List.range len).map fun i => if h : i < len then Classical.choose (key i h) else z70, by rw [hlen]; exact hv, ?_, by rw [hlen]; exact hl⟩
    refine ⟨rfl, by rw [hlen]; unfold maxLen at hm; omega, fun _ => ⟨a, rfl, fun j p hj => ?_⟩⟩
    obtain ⟨hj1, hj2⟩ := List.getElem?_eq_some_iff.1 hj
    rw [hlen] at hj1
    simp only [List.getElem_map, List.getElem_range] at hj2
    rw [dif_pos hj1] at hj2
    obtain ⟨e0, e1⟩ := Classical.choose_spec (key j hj1)
    rw [hj2] at e0 e1
    refine ⟨[.string p.f0, .string p.f1], rfl, k70_mk w p, fun i u hu => ?_⟩
    match i, hu with
    | 0, hu => simp at hu; subst hu; exact e0
    | 1, hu => simp at hu; subst hu; exact e1
set_option maxRecDepth 100000 in
theorem open_msg {b0 : Nat} {v : Value} {d : DataW H} {p : List MemPlace} (hv : Value.okWide Tryz.prog w .any b0 31 v) (h : DataW.Trod enc Tryz.prog w base spare held 31 v d p) :
    ∃ (A : Option Addr) (c : Nat) (l : List (S70)) (s : ByteArray), v = .agg #[.slice A l.length c, .string s] ∧ Kd.C k70 w A l.length l ∧ l.length ≤ c ∧ s.size ≤ maxLen := by
  obtain ⟨v0, v1, y0, y1, n, rfl, rfl, rfl, h0, h1⟩ := open_agg2 Tryz.underlying31 (by kernel_rfl) (by kernel_rfl) hv h
  obtain ⟨A, c, l, rfl, hc, hl⟩ := open_fields h0
  obtain ⟨s, rfl, hz⟩ := one_string h1
  exact ⟨A, c, l, s, rfl, hc, hl, hz⟩
end
end Go.Proofs.YtjohcncekfcgpaaGreatDoor.P
end
section
set_option linter.unusedVariables false
namespace Go.Proofs.YtjohcncekfcgpaaGreatDoor.P
open Go.RowKit Go.Proofs.YtjohcncekfcgpaaGreatDoorW.PrintWords Go.Proofs.YtjohcncekfcgpaaGreatDoorW.PrintLast Go.Proofs.YtjohcncekfcgpaaGreatDoorW.PrintMore
theorem neNil (l : List UInt8) : (l != []) = !l.isEmpty := by cases l <;> rfl
theorem eqNil (l : List UInt8) : (l == []) = l.isEmpty := by cases l <;> rfl
theorem bw {B : Nat} {w W : World} (h : Below B w W := by repeat (first | (with_reducible first | exact Aside0.out (by with_reducible assumption) | apply below_alloc | apply pw_below_drewN | apply below_drew1 | refine below_set ?_ (Aside0.out (by with_reducible assumption))) | exact Aside0.out (by assumption))) : Below B w W := h
theorem bk {W : World} {g : Nat} {o : Obj} (h : W.heap[g]? = some o := by (with_reducible repeat (first | refine blk_drewN ?_ _ | refine blk_drew ?_ | refine blk_alloc ?_ _)); exact Aside0.out (by first | (with_reducible assumption) | assumption)) : W.heap[g]? = some o := h
theorem bb {W0 W W' : World} {g : Nat} {o : Obj} (h0 : Aside0 (W0.heap[g]? = some o)) (hb : Below W.heap.size W W') (h : W.heap[g]? = some o := by (with_reducible repeat (first | refine blk_drewN ?_ _ | refine blk_drew ?_ | refine blk_alloc ?_ _)); exact Aside0.out (by first | (with_reducible assumption) | assumption)) : W'.heap[g]? = some o := blk_below h hb
theorem bl {W0 W : World} {g : Nat} {o : Obj} (h0 : Aside0 (W0.heap[g]? = some o)) (h : W.heap[g]? = some o := by (with_reducible repeat (first | refine blk_drewN ?_ _ | refine blk_drew ?_ | refine blk_alloc ?_ _)); exact Aside0.out (by first | (with_reducible assumption) | assumption)) : g < W.heap.size := blk_lt h
theorem bz {w W : World} {g : Nat} (hg : g = W.heap.size) (h : Below w.heap.size w W := by repeat (first | (with_reducible first | exact Aside0.out (by with_reducible assumption) | apply below_alloc | apply pw_below_drewN | apply below_drew1 | refine below_set ?_ (Aside0.out (by with_reducible assumption))) | exact Aside0.out (by assumption))) : w.heap.size ≤ g := hg ▸ below_size h
theorem kr {α : Type} {d : Kd α} {e : Nat} {W0 W : World} {base : Nat} {ok : Nat → Prop} {v : Value} {xs : List α} (h0 : Aside0 (d.R e W0 base ok v xs)) (h : d.R e W base ok v xs := by (with_reducible repeat (first | apply Kd.R_alloc | apply Kd.R_drewN | apply Kd.R_drew)); exact Aside0.out (by first | (with_reducible assumption) | assumption)) : d.R e W base ok v xs := h
theorem kc {α : Type} {d : Kd α} {W : World} {A : Option Addr} {n : Nat} {xs : List α} (h : d.C W A n xs := by repeat (first | exact Kd.C_below (Aside0.out (by with_reducible assumption)) (Aside0.out (by with_reducible assumption)) | (with_reducible refine Kd.C_alloc ?_ _) | (with_reducible refine Kd.C_drewN ?_ _) | (with_reducible refine Kd.C_drew ?_))) : d.C W A n xs := h
theorem eqv {α : Sort _} {a b : α} (h : a = b := by first | rfl | (simp; done) | (simp [*]; done) | (simp [neNil, eqNil]; done) | (simp [*, neNil, eqNil]; done)) : a = b := h
theorem eqe {α : Sort _} {a b : α} (h : a = b := by first | rfl | (simp [errW_none, errW_some] <;> rfl) | (simp [*, errW_none, errW_some] <;> rfl)) : a = b := h
theorem dr {w W : World} (h : Drawn0 w W := by repeat (first | exact Drawn0.refl _ | apply Drawn0.step)) : Drawn0 w W := h
theorem asm {p : Prop} (h : p := by first | (with_reducible assumption) | assumption) : p := h
section
variable {P : Program} {ops : Array Oper} {Q : Exit → Act → World → Prop}
theorem goesM {rest : List Oper} {oi : Oper} {a : Act} {w : World} (N : Option Tmp) {f : FuncId} {fn : Func} {xs0 : Array Operand} {ts : Array TypeId} (hf : P.funcs[f]? = some fn) (args : Array Value)
    (h : Calls P f args w fun e w' => ∃ v, e = .returned v ∧ wpList P ops Q rest (a.put N v) w')
    (hop : oi.op = .call { callee := .value (.func f), args := xs0, argTypes := ts } := by rfl)
    (hd : oi.dst = N := by rfl) (hg : oi.guard = none := by rfl) (hname : (fn.name == "runtime.NumGoroutine") = false := by kernel_rfl) (hb : fn.body.isSome = true := by rfl)
    (hargs : xs0.map a.eval = args := by (try simp only [List.map_toArray, List.map_cons, List.map_nil]); first | done | rfl | (simp only [List.length_drop, List.length_take]; rfl)) : wpList P ops Q (oi :: rest) a w := goesL_ N hd hg hf hname hb args hop hargs h
theorem boxE {rest : List Oper} {o : Oper} {a : Act} {W : World} (N : Tmp) (cs : Array Value) (t : TypeId)
    (h : ∀ g, g = W.heap.size → ∀ w1, w1.heap[g]? = some (.cells cs t (0, 0)) → Below W.heap.size W w1 → wpList P ops Q rest (a.put o.dst (.pointer (some ⟨g, 0, none⟩))) w1)
    (hgd : o.guard = none := by rfl) (hd : o.dst = some N := by rfl)
    (hrun : (execOp a.eval o).run P W = .ok (.value (.pointer (some ⟨W.heap.size, 0, none⟩))) (W.alloc (.cells cs t (0, 0))) := by first | (go_simp; done) | (go_simp; rfl)) : wpList P ops Q (o :: rest) a W := box_event hgd hd hrun h
end
end Go.Proofs.YtjohcncekfcgpaaGreatDoor.P
end
section
namespace Go.Proofs.YtjohcncekfcgpaaGreatDoor.P
open Go.RowKit
theorem below_setA {B b j : Nat} {a W : World} {v : Value} (h : Below B a W) (hb : Go.Proofs.YtjohcncekfcgpaaGreatDoorW.PrintWords.Aside0 (B ≤ b)) : Below B a (W.setCell ⟨b, j, none⟩ v) := h.setCell (p := ⟨b, j, none⟩) hb.out v
structure GU (w : World) : Prop where
  maxLen : ∃ m : Int, w.cell? ⟨0, 0, none⟩ = some (.int .i64 m)
  tabs : Lib.Utf8Tabs 1 2 w
theorem GU.below {w W : World} (h : GU w) (hb : Below w.heap.size w W) : GU W := by
  obtain ⟨⟨m, hm⟩, ht⟩ := h
  exact ⟨⟨m, Go.Proofs.YtjohcncekfcgpaaGreatDoorW.PrintWords.pw_cell_below hb hm⟩, Utf8Tabs_below ht hb⟩
theorem GU.belowA {w W : World} (h : GU w) (hb : Go.Proofs.YtjohcncekfcgpaaGreatDoorW.PrintWords.Aside0 (Below w.heap.size w W)) : GU W := h.below hb.out
theorem GU.drewN {w : World} {n : Nat} (h : GU w) : GU (w.drewN n) := h.below (Go.Proofs.YtjohcncekfcgpaaGreatDoorW.PrintWords.pw_below_drewN (Below.refl _ _) n)
theorem GU.drew {w : World} (h : GU w) : GU w.drew := h.below (Go.Proofs.YtjohcncekfcgpaaGreatDoorW.PrintWords.below_drew (Below.refl _ _))
theorem GU.alloc {w : World} {o : Obj} (h : GU w) : GU (w.alloc o) := h.below (Go.Proofs.YtjohcncekfcgpaaGreatDoorW.PrintWords.below_alloc (Below.refl _ _) o)
theorem gUT {w : World} (h : GU w := by first | (with_reducible assumption) | (refine GU.below (by with_reducible assumption) ?_; repeat (first | (with_reducible exact Go.Proofs.YtjohcncekfcgpaaGreatDoorW.PrintWords.Aside0.out (by with_reducible assumption)) | (with_reducible apply Go.Proofs.YtjohcncekfcgpaaGreatDoorW.PrintWords.below_alloc) | (with_reducible apply Go.Proofs.YtjohcncekfcgpaaGreatDoorW.PrintWords.pw_below_drewN) | (with_reducible apply Go.Proofs.YtjohcncekfcgpaaGreatDoorW.PrintWords.below_drew) | (with_reducible refine below_setA ?_ (by with_reducible assumption)) | (with_reducible exact Below.refl _ _)))) : GU w := h
end Go.Proofs.YtjohcncekfcgpaaGreatDoor.P
end
section
set_option linter.unusedVariables false
namespace Go.Proofs.YtjohcncekfcgpaaGreatDoor.P
open Go.RowKit Go.Shelf
theorem sizeBuilder : (Tryz.prog.info? 146).map (·.size) = some 2 := by kernel_rfl
theorem liesBuilder : liesAt Tryz.prog Tryz.prog.depth 146 (2 / Tryz.prog.cellsOf 146) 0 146 1 = true := by kernel_rfl
theorem infoByte : (Tryz.prog.info? 5).map (fun i => (i.zero, i.size, i.bytes)) = some (some (.int .u8 0), 1, 1) := by kernel_rfl
theorem neB5 : (146 : Nat) ≠ 5 := by decide
set_option maxHeartbeats 1000000 in
set_option maxRecDepth 100000 in
theorem bCopyUsed (b : Nat) (w : World) (h0 : w.cell? ⟨b, 0, none⟩ = some (.pointer (some ⟨b, 0, none⟩))) :
    Calls Tryz.prog 166 #[.pointer (some ⟨b, 0, none⟩)] w fun e w' => e = .returned (.tuple #[]) ∧ w' = w := by
  obtain ⟨j, hj, _⟩ := Option.map_eq_some_iff.1 sizeBuilder
  go_enter Tryz.func166, Tryz.ntmps166
  go_wp2
  rw [Lib.run_neq_ptr_same w _ Tryz.underlying144 hj]
  go_wp2
  go_end0
  exact ⟨rfl, rfl⟩
set_option maxHeartbeats 1000000 in
set_option maxRecDepth 100000 in
theorem bCopyFresh (b : Nat) (w : World) (h0 : w.cell? ⟨b, 0, none⟩ = some (.pointer none)) (hsh : w.shape? b = some (146, 2)) (hfz : w.frozen? ⟨b, 0, none⟩ = false) :
    Calls Tryz.prog 166 #[.pointer (some ⟨b, 0, none⟩)] w fun e w' => e = .returned (.tuple #[]) ∧ w' = w.setCell ⟨b, 0, none⟩ (.pointer (some ⟨b, 0, none⟩)) := by
  obtain ⟨j, hj, hjs⟩ := Option.map_eq_some_iff.1 sizeBuilder
  go_enter Tryz.func166, Tryz.ntmps166
  go_wp2
  rw [Lib.run_to_unsafe w ⟨b, 0, none⟩ Tryz.underlying144 Tryz.underlying226 hj (by rw [hjs]; decide) hsh (Nat.zero_lt_succ 1)]
  simp only [Result.andThen]
  rw [Oper.upon_value]
  go_wp2
  rw [run_callFunc_extern Tryz.func214 (by kernel_rfl) (by kernel_rfl) (by kernel_rfl) (e := Extern.AbiNoEscape.same) (by kernel_rfl)]
  rw [Lib.run_noEscape]
  simp only [Result.andThen]
  rw [Oper.upon_value]
  go_wp2
  rw [Lib.run_from_unsafe w ⟨b, 0, none⟩ Tryz.underlying226 Tryz.underlying144 hj hsh liesBuilder]
  simp only [Result.andThen]
  rw [Oper.upon_value]
  go_wp2
  go_end0
  exact ⟨rfl, rfl⟩
theorem bCopy (B b : Nat) (bs : List Value) (w : World) (h : Lib.IsBuilderF 146 5 B b bs w) :
    Calls Tryz.prog 166 #[.pointer (some ⟨b, 0, none⟩)] w fun e w' => e = .returned (.tuple #[]) ∧ (Lib.BuilderAtF 146 5 B b (.pointer (some ⟨b, 0, none⟩)) bs w' ∧ Below B w w' ∧ Lib.OthersKept 5 (some b) w w') := by
  rcases h with h | h
  · refine (bCopyFresh b w h.cell0 h.shape h.frozen0).mono ?_
    rintro e w' ⟨rfl, rfl⟩
    exact ⟨rfl, h.used _, (Below.refl B w).setCell (p := ⟨b, 0, none⟩) h.1 _, (Lib.OthersKept.refl _ _ w).setCell ⟨b, 0, none⟩ rfl _⟩
  · refine (bCopyUsed b w h.cell0).mono ?_
    rintro e w' ⟨rfl, rfl⟩
    exact ⟨rfl, h, Below.refl B _, Lib.OthersKept.refl _ _ _⟩
set_option maxHeartbeats 2000000 in
set_option maxRecDepth 100000 in
theorem bWriteByte (B b : Nat) (bs : List Value) (c : Int) (w : World) (h : Lib.IsBuilderF 146 5 B b bs w) (hlen : bs.length + 1 ≤ 140737488355328) (hBw : B ≤ w.heap.size) :
    Calls Tryz.prog 111 #[.pointer (some ⟨b, 0, none⟩), .int .u8 c] w fun e w' => e = .returned .nilIface ∧ (Lib.BuilderAtF 146 5 B b (.pointer (some ⟨b, 0, none⟩)) (bs ++ [.int .u8 c]) w' ∧ Below B w w' ∧ Lib.OthersKept 5 (some b) w w') := by
  obtain ⟨i0, hi, hz0, hz1, hz2⟩ := info_parts infoByte
  go_enter Tryz.func111, Tryz.ntmps111
  go_wp2_with (go_at_call 166; refine (bCopy B b bs _ h).mono ?_)
  rintro e w1 ⟨rfl, h1, hb1, hk1⟩
  obtain ⟨hB, v, hbk, hown, hne⟩ := h1
  have c0 : w1.cell? ⟨b, 0, none⟩ = some (.pointer (some ⟨b, 0, none⟩)) := by rw [Lib.cell_of_heap hbk]; rfl
  have c1 : w1.cell? ⟨b, 1, none⟩ = some v := by rw [Lib.cell_of_heap hbk]; rfl
  go_wp2_with (at_builtin; refine wpList_append_ownF _ rfl _ _ 50 rfl B 5 i0 (.int .u8 0) 1 1 Tryz.underlying50 hi hz0 hz1 hz2 rfl (by decide) _ _ _ rfl (hown.alloc _) ⟨w1.heap.size, 0, none⟩ 1 1 [.int .u8 c] rfl rfl ?c1 ?c2 ?c3 ?c4 ?c5 ?_)
  case c1 =>
    intro j u hj
    match j, hj with
    | 0, hj => simp at hj; subst hj; simp [Addr.add]
  case c2 => intro u hu; simp at hu; subst hu; rfl
  case c3 => unfold maxLen; omega
  case c4 => omega
  case c5 => have := hb1.size; simp; omega
  intro v' w2 hown' hgrow _
  have hlt : b < w1.heap.size := by
    rcases Nat.lt_or_ge b w1.heap.size with h' | h'
    · exact h'
    · simp [Array.getElem?_eq_none h'] at hbk
  have hb2 : w2.heap[b]? = some (.cells #[.pointer (some ⟨b, 0, none⟩), v] 146 (0, 0)) := by
    rw [hgrow.block b (by simp; omega) (fun e => hne e.symm), Lib.alloc_old w1 _ b hlt]
    exact hbk
  have d0 : w2.cell? ⟨b, 0, none⟩ = some (.pointer (some ⟨b, 0, none⟩)) := by rw [Lib.cell_of_heap hb2]; rfl
  have d1 : w2.cell? ⟨b, 1, none⟩ = some v := by rw [Lib.cell_of_heap hb2]; rfl
  have f1 : w2.frozen? ⟨b, 1, none⟩ = false := Lib.frozen_of_heap hb2 1
  obtain ⟨g, cap, rfl⟩ : ∃ g cap, v' = .slice (some ⟨g, 0, none⟩) (bs.length + 1) cap := by
    rcases hown'.2 with ⟨_, h0⟩ | ⟨g, cap, cur, fz, hv, _⟩
    · omega
    · exact ⟨g, cap, hv⟩
  go_wp2
  go_ret
  refine ⟨rfl, ?_, ?_, ((hk1.alloc _).grown hgrow (Lib.ownsRowF_kind (hown.alloc _))).setCell ⟨b, 1, none⟩ rfl _⟩
  · exact Lib.BuilderAtF.put (T := 146) (e := 5) hB hb2 (bs' := bs ++ [.int .u8 c]) (by simpa using hown') neB5
  · exact ((hb1.alloc (by have := hb1.size; omega) _).grown hgrow (by have := hb1.size; simp; omega) (fun k hk => (hown.lt k hk).1)).setCell (p := ⟨b, 1, none⟩) hB _
set_option maxHeartbeats 2000000 in
set_option maxRecDepth 100000 in
theorem bWriteString (B b : Nat) (bs : List Value) (s : ByteArray) (w : World) (h : Lib.IsBuilderF 146 5 B b bs w) (hlen : bs.length + s.size ≤ 140737488355328) (hBw : B ≤ w.heap.size) :
    Calls Tryz.prog 119 #[.pointer (some ⟨b, 0, none⟩), .string s] w fun e w' => e = .returned (.tuple #[.int .i64 s.size, .nilIface]) ∧ (Lib.BuilderAtF 146 5 B b (.pointer (some ⟨b, 0, none⟩)) (bs ++ Lib.strCells s) w' ∧ Below B w w' ∧ Lib.OthersKept 5 (some b) w w') := by
  obtain ⟨i0, hi, hz0, hz1, hz2⟩ := info_parts infoByte
  go_enter Tryz.func119, Tryz.ntmps119
  go_wp2_with (go_at_call 166; refine (bCopy B b bs _ h).mono ?_)
  rintro e w1 ⟨rfl, h1, hb1, hk1⟩
  obtain ⟨hB, v, hbk, hown, hne⟩ := h1
  have c0 : w1.cell? ⟨b, 0, none⟩ = some (.pointer (some ⟨b, 0, none⟩)) := by rw [Lib.cell_of_heap hbk]; rfl
  have c1 : w1.cell? ⟨b, 1, none⟩ = some v := by rw [Lib.cell_of_heap hbk]; rfl
  go_wp2_with (at_builtin; refine Lib.wpList_append_own_stringF _ rfl _ _ 50 9 rfl B 5 i0 Tryz.underlying50 Tryz.underlying9 hi hz0 hz1 hz2 _ _ _ rfl hown s rfl ?c3 ?c4 ?c5 ?_)
  case c3 => unfold maxLen; omega
  case c4 => omega
  case c5 => have := hb1.size; omega
  intro v' w2 hown' hgrow _
  have hlt : b < w1.heap.size := by
    rcases Nat.lt_or_ge b w1.heap.size with h' | h'
    · exact h'
    · simp [Array.getElem?_eq_none h'] at hbk
  have hb2 : w2.heap[b]? = some (.cells #[.pointer (some ⟨b, 0, none⟩), v] 146 (0, 0)) := by
    rw [hgrow.block b hlt (fun e => hne e.symm)]
    exact hbk
  have d0 : w2.cell? ⟨b, 0, none⟩ = some (.pointer (some ⟨b, 0, none⟩)) := by rw [Lib.cell_of_heap hb2]; rfl
  have d1 : w2.cell? ⟨b, 1, none⟩ = some v := by rw [Lib.cell_of_heap hb2]; rfl
  have f1 : w2.frozen? ⟨b, 1, none⟩ = false := Lib.frozen_of_heap hb2 1
  obtain ⟨ao, n', cap, rfl⟩ : ∃ ao n' cap, v' = .slice ao n' cap := by
    rcases hown'.2 with ⟨hv, _⟩ | ⟨g, cap, cur, fz, hv, _⟩
    · exact ⟨_, _, _, hv⟩
    · exact ⟨_, _, _, hv⟩
  go_wp2
  go_ret2
  refine ⟨rfl, ?_, ?_, (hk1.grown hgrow (Lib.ownsRowF_kind hown)).setCell ⟨b, 1, none⟩ rfl _⟩
  · exact Lib.BuilderAtF.put (T := 146) (e := 5) hB hb2 (bs' := bs ++ Lib.strCells s) (by simpa [Lib.strCells_length] using hown') neB5
  · exact (hb1.grown hgrow (by have := hb1.size; omega) (fun k hk => (hown.lt k hk).1)).setCell (p := ⟨b, 1, none⟩) hB _
set_option maxHeartbeats 2000000 in
set_option maxRecDepth 100000 in
theorem bWriteRune (B b : Nat) (bs : List Value) (r : Int) (hr0 : -2147483648 ≤ r) (hr1 : r ≤ 2147483647) (w : World) (h : Lib.IsBuilderF 146 5 B b bs w) (hlen : bs.length + 4 ≤ 140737488355328) (hBw : B ≤ w.heap.size) :
    Calls Tryz.prog 160 #[.pointer (some ⟨b, 0, none⟩), .int .i32 r] w fun e w' => e = .returned (.tuple #[.int .i64 (Lib.runeCells r).length, .nilIface]) ∧ (Lib.BuilderAtF 146 5 B b (.pointer (some ⟨b, 0, none⟩)) (bs ++ Lib.runeCells r) w' ∧ Below B w w' ∧ Lib.OthersKept 5 (some b) w w') := by
  obtain ⟨i0, hi, hz0, hz1, hz2⟩ := info_parts infoByte
  have hrl := Lib.runeCells_le r
  go_enter Tryz.func160, Tryz.ntmps160
  go_wp2_with (go_at_call 166; refine (bCopy B b bs _ h).mono ?_)
  rintro e w1 ⟨rfl, h1, hb1, hk1⟩
  obtain ⟨hB, v, hbk, hown, hne⟩ := h1
  obtain ⟨a0, cap0, rfl⟩ : ∃ a0 cap0, v = .slice a0 bs.length cap0 := by
    rcases hown.2 with ⟨hv, h0⟩ | ⟨g, cap, cur, fz, hv, _⟩
    · exact ⟨none, 0, by rw [hv, h0]⟩
    · exact ⟨_, _, hv⟩
  have c0 : w1.cell? ⟨b, 0, none⟩ = some (.pointer (some ⟨b, 0, none⟩)) := by rw [Lib.cell_of_heap hbk]; rfl
  have c1 : w1.cell? ⟨b, 1, none⟩ = some (.slice a0 bs.length cap0) := by rw [Lib.cell_of_heap hbk]; rfl
  have hlt : b < w1.heap.size := by
    rcases Nat.lt_or_ge b w1.heap.size with h' | h'
    · exact h'
    · simp [Array.getElem?_eq_none h'] at hbk
  go_wp2_with (go_at_call 204; refine (Tryz.utf8_AppendRune_row B _ _ _ r hr0 hr1 _ hown hlen (by have := hb1.size; omega)).mono ?_)
  rintro e w2 ⟨v', rfl, hown', o, hgrow⟩
  have hb2 : w2.heap[b]? = some (.cells #[.pointer (some ⟨b, 0, none⟩), .slice a0 bs.length cap0] 146 (0, 0)) := by
    rw [hgrow.block b (by simp; omega) (fun e => hne e.symm), Lib.alloc_old w1 _ b hlt]
    exact hbk
  have d0 : w2.cell? ⟨b, 0, none⟩ = some (.pointer (some ⟨b, 0, none⟩)) := by rw [Lib.cell_of_heap hb2]; rfl
  have d1 : w2.cell? ⟨b, 1, none⟩ = some (.slice a0 bs.length cap0) := by rw [Lib.cell_of_heap hb2]; rfl
  have f1 : w2.frozen? ⟨b, 1, none⟩ = false := Lib.frozen_of_heap hb2 1
  obtain ⟨g, cap, rfl⟩ : ∃ g cap, v' = .slice g (bs.length + (Lib.runeCells r).length) cap := by
    rcases hown'.2 with ⟨hv, h0⟩ | ⟨g, cap, cur, fz, hv, _⟩
    · exact ⟨none, 0, by rw [hv, h0]⟩
    · exact ⟨_, cap, hv⟩
  go_wp2
  go_ret2
  refine ⟨by simp; omega, ?_, ?_, ((hk1.alloc _).grown hgrow (Lib.ownsRowF_kind (hown.alloc _))).setCell ⟨b, 1, none⟩ rfl _⟩
  · exact Lib.BuilderAtF.put (T := 146) (e := 5) hB hb2 (bs' := bs ++ Lib.runeCells r) (by simpa using hown') neB5
  · exact ((hb1.alloc (by have := hb1.size; omega) _).grown hgrow (by have := hb1.size; simp; omega) (fun k hk => (hown.lt k hk).1)).setCell (p := ⟨b, 1, none⟩) hB _
end Go.Proofs.YtjohcncekfcgpaaGreatDoor.P
end
section
namespace Go.Proofs.YtjohcncekfcgpaaGreatDoor.P
open Go.RowKit
def foldB (b : UInt8) : UInt8 := if 65 ≤ b.toNat ∧ b.toNat ≤ 90 then b + 32 else b
def foldL (l : List UInt8) : List UInt8 := l.map foldB
theorem take_snocB (s : ByteArray) (k : Nat) (h : k < s.size) : s.data.toList.take (k + 1) = s.data.toList.take k ++ [s[k]] := by
  rw [List.take_succ_eq_append_getElem (by simpa using h)]; rfl
theorem foldL_take_snoc (s : ByteArray) (k : Nat) (h : k < s.size) : foldL (s.data.toList.take (k + 1)) = foldL (s.data.toList.take k) ++ [foldB s[k]] := by
  rw [take_snocB s k h]; simp [foldL]
theorem foldB_up (b : UInt8) (h1 : 65 ≤ (b.toNat : Int)) (h2 : (b.toNat : Int) ≤ 90) : Lib.byteCells [foldB b] = [.int .u8 ((b.toNat : Int) + 32)] := by
  have : foldB b = b + 32 := by unfold foldB; rw [if_pos (by omega)]
  rw [this]
  simp only [Lib.byteCells, List.map_cons, List.map_nil, List.cons.injEq, and_true, Value.int.injEq, true_and]
  rw [UInt8.toNat_add]
  have : b.toNat + (32 : UInt8).toNat = b.toNat + 32 := rfl
  rw [this]; omega
theorem foldB_same (b : UInt8) (h : ¬ (65 ≤ (b.toNat : Int) ∧ (b.toNat : Int) ≤ 90)) : Lib.byteCells [foldB b] = [.int .u8 (b.toNat : Int)] := by
  have : foldB b = b := by unfold foldB; rw [if_neg (by omega)]
  rw [this]; rfl
end Go.Proofs.YtjohcncekfcgpaaGreatDoor.P
end
section
set_option linter.unusedVariables false
namespace Go.Proofs.YtjohcncekfcgpaaGreatDoor.P
open Go.RowKit Go.Shelf Go.Proofs.YtjohcncekfcgpaaGreatDoorW.PrintWords Go.Proofs.YtjohcncekfcgpaaGreatDoorW.PrintLast
theorem spot_none {w : World} {a : Addr} {v : Value} (h : w.cell? a = some v) : a.spot = none := World.cell?_spot h
theorem C_cells {w : World} {A : Option Addr} {l : List ByteArray} (h : Kd.C Kd.string w A l.length l) (h0 : 0 < l.length) :
    ∃ bk o, A = some ⟨bk, o, none⟩ ∧ bk < w.heap.size ∧ ∀ (j : Nat) x, l[j]? = some x → w.cell? ⟨bk, o + j, none⟩ = some (.string x) := by
  have hget : ∀ (j : Nat) x, l[j]? = some x → ∃ ad, A = some ad ∧ w.cell? (ad.add j) = some (.string x) := by
    intro j x hx
    have hj : j < l.length := (List.getElem?_eq_some_iff.1 hx).1
    obtain ⟨ad, e, hc⟩ := Kd.at_string h (j : Int) (by omega) (by omega)
    refine ⟨ad, e, ?_⟩
    rw [Int.toNat_natCast] at hc
    rw [hc]
    congr 2
    simp [rdOf, hx]
  obtain ⟨ad, e, hc⟩ := hget 0 _ (List.getElem?_eq_getElem h0)
  rw [Addr.add_zero'] at hc
  have hs := spot_none hc
  obtain ⟨bk, o, sp⟩ := ad
  simp only at hs
  subst hs
  refine ⟨bk, o, e, World.block_lt_of_cell? w _ hc, fun j x hx => ?_⟩
  obtain ⟨ad', e', hc'⟩ := hget j x hx
  rw [e] at e'
  obtain rfl := Option.some.inj e'
  rw [← hc']
  by_cases hj : j = 0
  · subst hj; simp [Addr.add]
  · simp [Addr.add, hj]
def joinB (l : List ByteArray) (sep : ByteArray) : ByteArray := ⟨(Lib.join (l.map (·.data.toList)) sep.data.toList).toArray⟩
def strings_Join.f (l0 : List ByteArray) (a1 : ByteArray) : Option (ByteArray) :=
  if l0.length ≤ 140737488355328 ∧ (Lib.join (l0.map (·.data.toList)) a1.data.toList).length ≤ 140737488355328 then some (joinB l0 a1) else none
theorem strings_Join.calls (A0 : Option Addr) (c0 : Nat) (l0 : List ByteArray) (a1 : ByteArray) (r : ByteArray) (w : World) (hr0 : Kd.C Kd.string w A0 l0.length l0) (hc0 : l0.length ≤ c0) (h : strings_Join.f l0 a1 = some r) :
    Calls Tryz.prog 202 #[.slice A0 l0.length c0, .string a1] w fun e w' => e = .returned (.string r) ∧ Below w.heap.size w w' := by
  unfold strings_Join.f at h
  split at h
  · rename_i hh
    obtain rfl := Option.some.inj h
    cases l0 with
    | nil => exact (Tryz.strings_Join_none A0 c0 a1 w).mono fun e w' ⟨he, hw⟩ => ⟨he, hw ▸ Below.refl _ _⟩
    | cons x l =>
      obtain ⟨bk, o, rfl, hbk, hcells⟩ := C_cells hr0 (by simp)
      exact Tryz.strings_Join bk o c0 (x :: l) a1 w hcells hbk hh.1 hc0 hh.2
  · exact absurd h (by simp)
theorem R_strings (w : World) (l : List ByteArray) (N : Nat) (hl : l.length ≤ N) (hN : N ≤ 9223372036854775807) :
    Kd.R Kd.string 9 (w.alloc (.cells (Lib.cellsOf l N) 9)) w.heap.size (fun _ => True) (.slice (some ⟨w.heap.size, 0, none⟩) l.length N) l := by
  have e1 : Kd.string.sz = 1 := rfl
  refine ⟨fun _ _ => trivial, l.map Value.string, ⟨by simp [e1], .inr ⟨w.heap.size, N, Lib.cellsOf l N, rfl, Nat.le_refl _, heap_alloc_new w _, hl, hN, ?_, ?_⟩⟩, ?_⟩
  · rw [Lib.cellsOf_size hl, e1, Nat.mul_one]
  · rw [e1, Nat.mul_one, Lib.cellsOf, List.take_append_of_le_length (by simp), List.take_of_length_le (by simp)]
  · exact Kd.reps_scalar (enc := Value.string) l
def strings_SplitN.f (a0 : ByteArray) (a1 : ByteArray) (a2 : Int) : Option (List ByteArray) :=
  if a0.size < 4294967281 ∧ 1 ≤ a1.size ∧ 1 ≤ a2 ∧ a2 ≤ 9223372036854775807 then some (Lib.splitB a1 0 (min a2.toNat (a0.size + 1) - 1) a0) else none
theorem strings_SplitN.calls (a0 : ByteArray) (a1 : ByteArray) (a2 : Int) (r : List ByteArray) (w : World) (h : strings_SplitN.f a0 a1 a2 = some r) (hGU : GU w := by exact gUT) :
    Calls Tryz.prog 206 #[.string a0, .string a1, .int .i64 a2] w fun e w' => ∃ v0_ : Value, e = .returned (v0_) ∧ Kd.R Kd.string 9 w' w.heap.size (fun _ => True) v0_ r ∧ Below w.heap.size w w' := by
  unfold strings_SplitN.f at h
  split at h
  · rename_i hh
    obtain ⟨h1, h2, h3, h4⟩ := hh
    obtain rfl := Option.some.inj h
    obtain ⟨m, hm⟩ := hGU.maxLen
    have hn : a2 = ((a2.toNat : Nat) : Int) := by omega
    obtain ⟨n, hn'⟩ : ∃ n, n = a2.toNat := ⟨_, rfl⟩
    rw [← hn'] at hn ⊢
    subst hn
    refine (Tryz.strings_SplitN a0 a1 n m w h1 hm h2 (by omega) (by omega)).mono fun e w' ⟨he, hw⟩ => ⟨_, he, ?_, ?_⟩
    · rw [hw]
      exact R_strings w _ _ (by have := Lib.splitB_length_le a1 0 (min n (a0.size + 1) - 1) a0; omega) (by omega)
    · rw [hw]; exact below_alloc (Below.refl _ _) _
  · exact absurd h (by simp)
end Go.Proofs.YtjohcncekfcgpaaGreatDoor.P
end
section
namespace Go.Proofs.YtjohcncekfcgpaaGreatDoor.P
open Go.RowKit Go.Shelf
def AbS {β : Type} (B st : Nat) (I : β → World → Prop) : Prop :=
  ∀ (s : β) (X Y : World) (row : Option Nat), I s X → X.grownBy Y row → (∀ r, row = some r → r = st ∨ (B ≤ r ∧ ∃ o : Obj, X.heap[r]? = some o ∧ o.isCells = false)) → I s Y
theorem AbS.alloc {β : Type} {B st : Nat} {I : β → World → Prop} (h : AbS B st I) {s : β} {X : World} (o : Obj) (hs : I s X) : I s (X.alloc o) :=
  h s X _ none hs ⟨rfl, rfl, rfl, by simp, fun i hi _ => Below.heap_alloc _ _ _ hi⟩ (fun r e => by cases e)
theorem AbS.putObj {β : Type} {B st : Nat} {I : β → World → Prop} (h : AbS B st I) {s : β} {X : World} {l : Nat} {o : Obj} (o' : Obj) (hs : I s X) (hB : B ≤ l) (hl : X.heap[l]? = some o) (hc : o.isCells = false) : I s (X.putObj l o') :=
  h s X _ (some l) hs (grownBy_putObj' X l o') (fun r e => by cases e; exact .inr ⟨hB, o, hl, hc⟩)
def SeqSt {α : Type} (F : Fence) (n : Nat) (P : Program) (g : Nat) (lb : Array Value) (encs : α → Array Value) (Kp : World → World → Prop) (st : Nat) (S Sp : List α → Prop) (Rd : List α → α → Prop) (w : World) : Prop :=
  ∀ (l : Nat) (J Jx : List α → World → Prop) (W : World), Below w.heap.size w W → AbS W.heap.size st J → AbS W.heap.size st Jx →
    (∀ pre x W1, J pre W1 → Rd pre x → YieldAt F (n - 1) P l (encs x) W1 fun e W' =>
      (e = .returned (.bool true) ∧ J (pre ++ [x]) W' ∧ Kp W1 W') ∨ (e = .returned (.bool false) ∧ Jx (pre ++ [x]) W')) →
    J [] W →
    CallsIn F n P g (#[.func (.yield l) #[] #[]] ++ lb) W fun e W' => (∃ v, e = .returned v) ∧ ((∃ xs, S xs ∧ J xs W') ∨ (∃ pre, Sp pre ∧ Jx pre W'))
def postSt {α : Type} (Kp : World → World → Prop) (I : List α → World → Prop) (Ix : Code → List α → World → Prop) (xs : List α) (W : World) : Exit → Act → World → Prop
  | .normal, _, W' => KeepsOthers W W' ∧ Kp W W' ∧ I xs W'
  | .ret, _, W' => KeepsOthers W W' ∧ Ix .ret xs W'
  | .exit id, _, W' => KeepsOthers W W' ∧ Ix (.exit id) xs W'
  | .goto t, _, W' => KeepsOthers W W' ∧ Ix (.goto t) xs W'
  | .panic _, _, _ => False
  | .outgrown, _, _ => False
variable {F : Fence} {n : Nat} {P : Program}
theorem wpIn_rangeFunc_st {α : Type} {g : Operand} {ps : Array Tmp} {assign body : Code} {Q : Exit → Act → World → Prop} {a : Act} {w : World}
    (hro : F.round = none) (h1 : 1 ≤ n) {gf : Nat} {lb : Array Value} (hg : a.eval g = .func (.func gf) #[] lb) (hFg : F.fn gf) (eg : ∀ args w, (callFunc gf args).run P w = .ok (.enter gf args) w)
    {encs : α → Array Value} {Kp : World → World → Prop} {st : Nat} {S Sp : List α → Prop} {Rd : List α → α → Prop} {w0 : World} (hseq : SeqSt F (n - 1) P gf lb encs Kp st S Sp Rd w0) (hst : st < w.heap.size)
    (hKt : ∀ {A B C : World}, Kp A B → Kp B C → Kp A C) (hKb : ∀ (W : World) (l : Nat) (o o' : Obj), w.heap.size ≤ l → W.heap[l]? = some o → o.isCells = false → o.isWalk = false → Kp W (W.putObj l o')) (hb0 : Below w0.heap.size w0 w) (hps : ∀ x, (encs x).size = ps.size)
    (I : List α → World → Prop) (Ix : Code → List α → World → Prop) (hI : AbS w.heap.size st I) (hIx : ∀ c, AbS w.heap.size st (Ix c)) (h0 : I [] w) (a₁ : α → Act)
    (hassign : ∀ (l : Nat) (x : α) (W : World) (K : Act → World → Prop), K (a₁ x) W →
      assign.wpIn (F.inRound l) (n - 1 - 1) P (Exit.then K (fun _ _ _ => False)) { tmps := (ps.zip (encs x)).foldl (fun t (p, v) => t.setIfInBounds p v) a.tmps, defers := [] } W)
    (hbody : ∀ (l : Nat) (pre : List α) (x : α) (W : World), I pre W → Rd pre x → body.wpIn (F.inRound l) (n - 1 - 1) P (postSt Kp I Ix (pre ++ [x]) W) (a₁ x) W)
    (hdone : ∀ (D : Nat) (xs : List α) (W : World), w.heap.size ≤ D → S xs → I xs W → W.heap[D]? = some (.deferred (some [])) → Q .normal { a with defers := { target := .collected D, args := #[] } :: a.defers } W)
    (hstop : ∀ (D : Nat) (c : Code) (pre : List α) (W : World), w.heap.size ≤ D → Sp pre → Ix c pre W → W.heap[D]? = some (.deferred (some [])) → c.wpIn F n P Q { a with defers := { target := .collected D, args := #[] } :: a.defers } W) :
    (Code.rangeFunc g ps assign body).wpIn F n P Q a w := by
  refine wpIn_rangeFunc ?_
  intro fn hfn
  rw [hro]
  obtain ⟨rec, hrec⟩ : ∃ rec : LoopState → Option Code → Loop, rec = fun s pe => { state := s, pending := pe, fn, tmps := a.tmps, params := ps, assign, body, defers := w.heap.size } := ⟨_, rfl⟩
  obtain ⟨W1, hW1⟩ : ∃ W1, (w.alloc (.deferred (some []))).alloc (.loop (rec .ready none)) = W1 := ⟨_, rfl⟩
  have hL1 : W1.heap[w.heap.size + 1]? = some (.loop (rec .ready none)) := by
    rw [← hW1]; have := World.alloc_heap_new (w.alloc (.deferred (some []))) (.loop (rec .ready none)); rwa [World.size_alloc] at this
  have hK1 : W1.heap[w.heap.size]? = some (.deferred (some [])) := by
    rw [← hW1]; exact (Below.heap_alloc _ _ _ (by simp)).trans (World.alloc_heap_new w _)
  have hI1 : I [] W1 := by rw [← hW1]; exact hI.alloc _ (hI.alloc _ h0)
  have hb1 : Below w0.heap.size w0 W1 := by
    rw [← hW1]; exact hb0.trans ((((Below.refl _ w).alloc (Nat.le_refl _) _).alloc (by simp) _).mono hb0.size)
  have hs1 : w.heap.size ≤ W1.heap.size := by rw [← hW1]; simp; omega
  have keep : ∀ {X Y : World} {row : Option Nat} (k : Nat) (o : Obj), X.grownBy Y row → (∀ r, row = some r → r = st ∨ (W1.heap.size ≤ r ∧ ∃ o : Obj, X.heap[r]? = some o ∧ o.isCells = false)) → w.heap.size ≤ k → k < w.heap.size + 2 → X.heap[k]? = some o → Y.heap[k]? = some o := by
    intro X Y row k o hg hr hk hk2 ho
    refine (hg.block k (Array.getElem?_eq_some_iff.1 ho).1 (fun e => ?_)).trans ho
    rcases hr k e.symm with e2 | ⟨e2, _⟩
    · omega
    · rw [← hW1] at e2; simp at e2; omega
  have wide : ∀ {X : World} {row : Option Nat}, (∀ r, row = some r → r = st ∨ (W1.heap.size ≤ r ∧ ∃ o : Obj, X.heap[r]? = some o ∧ o.isCells = false)) → (∀ r, row = some r → r = st ∨ (w.heap.size ≤ r ∧ ∃ o : Obj, X.heap[r]? = some o ∧ o.isCells = false)) :=
    fun h r e => (h r e).imp id (fun ⟨h1, h2⟩ => ⟨Nat.le_trans hs1 h1, h2⟩)
  refine ⟨w.heap.size + 1, [{ target := .collected w.heap.size, args := #[] }], W1, { target := .fn (.func gf) lb, args := #[.func (.yield (w.heap.size + 1)) #[] #[]] }, W1, gf,
    #[.func (.yield (w.heap.size + 1)) #[] #[]] ++ lb, W1, ?_, ?_, ?_, ?_, fun _ => h1, ?_⟩
  · rw [← hW1, hrec]; exact run_enterLoop_outer _ _ _ _ _
  · simp only [resolve, hg]
    simp [go_sem]
  · intro f' hf'; simp [Target.leads] at hf'; subst hf'; exact hFg
  · simp [invoke, go_sem, eg]
  · refine (hseq (w.heap.size + 1)
      (fun pre W => I pre W ∧ W.heap[w.heap.size + 1]? = some (.loop (rec .ready none)) ∧ W.heap[w.heap.size]? = some (.deferred (some [])))
      (fun pre W => ∃ c, Ix c pre W ∧ W.heap[w.heap.size + 1]? = some (.loop (rec .done (some c))) ∧ W.heap[w.heap.size]? = some (.deferred (some [])))
      W1 hb1
      (fun s X Y row hs hg' hr => ⟨hI s X Y row hs.1 hg' (wide hr), keep _ _ hg' hr (by omega) (by omega) hs.2.1, keep _ _ hg' hr (by omega) (by omega) hs.2.2⟩)
      (fun s X Y row hs hg' hr => by
        obtain ⟨c, hc, hl, hk⟩ := hs
        exact ⟨c, hIx c s X Y row hc hg' (wide hr), keep _ _ hg' hr (by omega) (by omega) hl, keep _ _ hg' hr (by omega) (by omega) hk⟩)
      ?_ ⟨hI1, hL1, hK1⟩).mono ?_
    · rintro pre x W ⟨hi, hl, hk⟩ hlen
      have hlt : w.heap.size + 1 < W.heap.size := (Array.getElem?_eq_some_iff.1 hl).1
      have hy := run_yield (P := P) (args := encs x) hl (by rw [hrec]; exact hps x)
      rw [hrec] at hy
      refine ⟨fn, _, assign, body, hy, roundIn_of_wpIn hfn (hassign _ x W _ ⟨_, run_beginRound hl (by rw [hrec]), ?_⟩)⟩
      have hl2 : (W.putObj (w.heap.size + 1) (.loop { rec .ready none with state := .busy })).heap[w.heap.size + 1]? = some (.loop { rec .ready none with state := .busy }) := World.putObj_heap_same hlt
      have hk2 : (W.putObj (w.heap.size + 1) (.loop { rec .ready none with state := .busy })).heap[w.heap.size]? = some (.deferred (some [])) := (World.putObj_heap_other (by omega)).trans hk
      have hw2 : Kp W (W.putObj (w.heap.size + 1) (.loop { rec .ready none with state := .busy })) := hKb _ _ _ _ (by omega) hl rfl rfl
      refine wpIn_mono (hbody _ pre x _ (hI.putObj _ hi (by omega) hl rfl) hlen) ?_
      have fin : ∀ (jump : Option Code) (W3 : World), KeepsOthers (W.putObj (w.heap.size + 1) (.loop { rec .ready none with state := .busy })) W3 →
          (Instr.endRound (w.heap.size + 1) jump).run P W3 = .ok (.bool jump.isNone) (W3.putObj (w.heap.size + 1) (.loop (rec (if jump.isNone then .ready else .done) jump))) ∧
          W3.heap[w.heap.size + 1]? = some (.loop { rec .ready none with state := .busy }) ∧
          (W3.putObj (w.heap.size + 1) (.loop (rec (if jump.isNone then .ready else .done) jump))).heap[w.heap.size + 1]? = some (.loop (rec (if jump.isNone then .ready else .done) jump)) ∧
          (W3.putObj (w.heap.size + 1) (.loop (rec (if jump.isNone then .ready else .done) jump))).heap[w.heap.size]? = some (.deferred (some [])) := fun jump W3 hk3 => by
        have hl3 := hk3.same _ _ hl2 rfl
        have := run_endRound (P := P) jump hl3
        rw [hrec] at this ⊢
        exact ⟨this, by rw [hrec] at hl3; exact hl3, World.putObj_heap_same (Array.getElem?_eq_some_iff.1 hl3).1, (World.putObj_heap_other (by omega)).trans (hk3.same _ _ hk2 rfl)⟩
      rintro e a3 W3 hp
      cases e with
      | normal =>
        obtain ⟨hk3, hkp3, hi3⟩ := hp
        obtain ⟨hr, hl3, hl4, hk4⟩ := fin none W3 hk3
        exact ⟨_, _, hr, .inl ⟨rfl, ⟨hI.putObj _ hi3 (by omega) hl3 rfl, hl4, hk4⟩, hKt (hKt hw2 hkp3) (hKb _ _ _ _ (by omega) hl3 rfl rfl)⟩⟩
      | ret =>
        obtain ⟨hk3, hi3⟩ := hp
        obtain ⟨hr, hl3, hl4, hk4⟩ := fin (some .ret) W3 hk3
        exact ⟨_, _, hr, .inr ⟨rfl, .ret, (hIx _).putObj _ hi3 (by omega) hl3 rfl, hl4, hk4⟩⟩
      | exit id =>
        obtain ⟨hk3, hi3⟩ := hp
        obtain ⟨hr, hl3, hl4, hk4⟩ := fin (some (.exit id)) W3 hk3
        exact ⟨_, _, hr, .inr ⟨rfl, .exit id, (hIx _).putObj _ hi3 (by omega) hl3 rfl, hl4, hk4⟩⟩
      | goto t =>
        obtain ⟨hk3, hi3⟩ := hp
        obtain ⟨hr, hl3, hl4, hk4⟩ := fin (some (.goto t)) W3 hk3
        exact ⟨_, _, hr, .inr ⟨rfl, .goto t, (hIx _).putObj _ hi3 (by omega) hl3 rfl, hl4, hk4⟩⟩
      | panic ch => exact hp.elim
      | outgrown => exact hp.elim
    · rintro e W2 ⟨⟨v, rfl⟩, (⟨xs, hS, hi, hl, hk⟩ | ⟨pre, hSp, c, hi, hl, hk⟩)⟩
      · exact ⟨none, _, by have := run_endLoop (P := P) hl (by rw [hrec]; simp); rw [hrec] at this; exact this, hdone _ xs _ (Nat.le_refl _) hS (hI.putObj _ hi (by omega) hl rfl) ((World.putObj_heap_other (by omega)).trans hk)⟩
      · exact ⟨some c, _, by have := run_endLoop (P := P) hl (by rw [hrec]; simp); rw [hrec] at this; exact this, hstop _ c pre _ (Nat.le_refl _) hSp ((hIx c).putObj _ hi (by omega) hl rfl) ((World.putObj_heap_other (by omega)).trans hk)⟩
end Go.Proofs.YtjohcncekfcgpaaGreatDoor.P
end
section
set_option linter.unusedVariables false
namespace Go.Proofs.YtjohcncekfcgpaaGreatDoor.P
open Go.RowKit Go.Proofs.YtjohcncekfcgpaaGreatDoorW.PrintWords
section
variable {α β : Type} {g f : Nat → Option α} {r : α}
theorem Ev.pos {c : Prop} [Decidable c] (hc : c) (h : Ev g r) : Ev (fun k => if c then g k else f k) r := Ev.congr (fun _ => if_pos hc) h
theorem Ev.neg {c : Prop} [Decidable c] (hc : ¬ c) (h : Ev f r) : Ev (fun k => if c then g k else f k) r := Ev.congr (fun _ => if_neg hc) h
theorem Ev.eq {r' : α} (h : Ev g r') (e : r' = r) : Ev g r := e ▸ h
theorem Ev.const {a : Option α} (h : a = some r) : Ev (fun _ => a) r := ⟨0, fun _ _ => h⟩
theorem Ev.bindc {a : Option β} {x : β} {q : Nat → β → Option α} (h : a = some x) (k : Ev (fun n => q n x) r) : Ev (fun n => a.bind (q n)) r := Ev.bind (Ev.const h) k
end
theorem size_list (s : ByteArray) : s.size = s.data.toList.length := by simp
theorem toList_data (s : ByteArray) : s.toList = s.data.toList := Lib.toList_data s
theorem ba_ext {s t : ByteArray} (h : s.data.toList = t.data.toList) : s = t := by
  cases s; cases t; simp at h; rw [h]
def mkB (l : List UInt8) : ByteArray := ⟨l.toArray⟩
theorem mkB_list (l : List UInt8) : (mkB l).data.toList = l := rfl
theorem mkB_size (l : List UInt8) : (mkB l).size = l.length := rfl
theorem mkB_of (s : ByteArray) : mkB s.data.toList = s := Lib.mk_data s
theorem mkB_nil : (⟨#[]⟩ : ByteArray) = mkB [] := rfl
theorem mkB_app (a b : List UInt8) : mkB a ++ mkB b = mkB (a ++ b) := by
  apply ba_ext; rw [ByteArray.data_append, Array.toList_append]; rfl
theorem ba_app (a b : ByteArray) : (a ++ b).data.toList = a.data.toList ++ b.data.toList := by
  rw [ByteArray.data_append, Array.toList_append]
theorem ba_nil (s : ByteArray) : s.toList = ([] : List UInt8) ↔ s.data.toList = [] := by rw [toList_data]
theorem ex_list (s : ByteArray) (i j : Nat) : (s.extract i j).data.toList = (s.data.toList.drop i).take (j - i) := by
  rw [ByteArray.data_extract, Array.toList_extract, List.extract_eq_take_drop]
theorem wS {i : Int} (h0 : 0 ≤ i) (h : i ≤ 1000000000000000000) : wrap64 (i + 1) = i + 1 := by unfold wrap64; omega
theorem wN {i n : Nat} (h : i < n) (hn : n ≤ 1000000000000) : wrap64 ((i : Int) + 1) = ((i + 1 : Nat) : Int) := by unfold wrap64; omega
theorem suf_cons {s : ByteArray} {i : Nat} {b : UInt8} {l : List UInt8} (h : s.data.toList.drop i = b :: l) : i < s.size ∧ bt s (i : Int) = (b.toNat : Int) ∧ s.data.toList.drop (i + 1) = l := by
  have hlt : i < s.data.toList.length := by
    rcases Nat.lt_or_ge i s.data.toList.length with h' | h'
    · exact h'
    · rw [List.drop_eq_nil_of_le h'] at h; cases h
  have hs : i < s.size := by rw [size_list]; exact hlt
  have hc := List.drop_eq_getElem_cons hlt
  rw [h] at hc
  injection hc with hb hl
  refine ⟨hs, ?_, hl.symm⟩
  unfold bt
  rw [Int.toNat_natCast, dif_pos hs, hb]
  rfl
theorem suf_nil {s : ByteArray} {i : Nat} (h : s.data.toList.drop i = []) : s.size ≤ i := by
  rw [size_list]; exact List.drop_eq_nil_iff.1 h
theorem ex_one {s : ByteArray} {i : Nat} {b : UInt8} {l : List UInt8} (h : s.data.toList.drop i = b :: l) : (s.extract i (i + 1)) = mkB [b] := by
  apply ba_ext
  rw [ex_list, h, Nat.add_sub_cancel_left]; rfl
theorem u8_eq {b : UInt8} {n : Nat} (hn : n < 256) : ((b.toNat : Int) = (n : Int)) ↔ b = UInt8.ofNat n := by
  constructor
  · intro h
    have : b.toNat = n := by omega
    apply UInt8.toNat_inj.1
    rw [this, UInt8.toNat_ofNat']; omega
  · intro h
    rw [h, UInt8.toNat_ofNat']; omega
def cutL : List UInt8 → List UInt8 × List UInt8 × Bool
  | [] => ([], [], false)
  | b :: l => if [13, 10].isPrefixOf (b :: l) = true then ([], l.drop 1, true) else (b :: (cutL l).1, (cutL l).2.1, (cutL l).2.2)
theorem cut_cutL : ∀ l : List UInt8, Lib.cut l [13, 10] = cutL l
  | [] => rfl
  | b :: l => by
    have ih := cut_cutL l
    have hge := Lib.index_ge l [13, 10]
    unfold cutL
    by_cases hp : [13, 10].isPrefixOf (b :: l) = true
    · rw [if_pos hp]
      have h0 : Lib.index (b :: l) [13, 10] = 0 := by unfold Lib.index; rw [if_pos hp]
      unfold Lib.cut
      rw [h0]
      simp
    · rw [if_neg hp, ← ih]
      by_cases h1 : Lib.index l [13, 10] = -1
      · have h0 : Lib.index (b :: l) [13, 10] = -1 := by unfold Lib.index; rw [if_neg hp, h1]; rfl
        unfold Lib.cut
        rw [h0, h1]
        simp
      · have h0 : Lib.index (b :: l) [13, 10] = Lib.index l [13, 10] + 1 := by
          rw [Lib.index, if_neg hp, if_neg (by simpa using h1)]
        unfold Lib.cut
        rw [h0, if_pos (by omega), if_pos (by omega)]
        obtain ⟨n, hn⟩ := Int.eq_ofNat_of_zero_le (show 0 ≤ Lib.index l [13, 10] by omega)
        rw [hn]
        simp [List.take_succ_cons, Nat.add_right_comm]
theorem cutL_len : ∀ l : List UInt8, (cutL l).2.1.length ≤ l.length ∧ (l ≠ [] → (cutL l).2.1.length < l.length) ∧ (cutL l).1.length ≤ l.length
  | [] => ⟨Nat.le_refl _, fun h => absurd rfl h, Nat.le_refl _⟩
  | b :: l => by
    have ih := cutL_len l
    unfold cutL
    split
    · exact ⟨by simp; omega, fun _ => by simp; omega, by simp⟩
    · exact ⟨by simp; omega, fun _ => by simp; omega, by simp; omega⟩
end Go.Proofs.YtjohcncekfcgpaaGreatDoor.P
end
section
set_option linter.unusedVariables false
namespace Go.Proofs.YtjohcncekfcgpaaGreatDoor.P
open Go.RowKit Go.Shelf Go.Proofs.YtjohcncekfcgpaaGreatDoorW.PrintWords Go.Proofs.YtjohcncekfcgpaaGreatDoorW.PrintLast
def asciiL (s : ByteArray) : Bool := s.data.toList.all (fun b => decide (b.toNat < 128))
theorem asciiL_at {s : ByteArray} (h : asciiL s = true) : ∀ (j : Nat) b, s.data.toList[j]? = some b → b.toNat < 128 :=
  fun _ b hb => of_decide_eq_true (List.all_eq_true.1 h b (List.mem_of_getElem? hb))
def strings_Cut.f (a0 : ByteArray) (a1 : ByteArray) : Option (ByteArray × ByteArray × Bool) :=
  if a0.size < 4294967281 then some (mkB (Lib.cut a0.data.toList a1.data.toList).1, mkB (Lib.cut a0.data.toList a1.data.toList).2.1, (Lib.cut a0.data.toList a1.data.toList).2.2) else none
theorem strings_Cut.calls (a0 : ByteArray) (a1 : ByteArray) (r1 : ByteArray) (r2 : ByteArray) (r3 : Bool) (w : World) (h : strings_Cut.f a0 a1 = some (r1, r2, r3)) (hGU : GU w := by exact gUT) :
    Calls Tryz.prog 65 #[.string a0, .string a1] w fun e w' => e = .returned (.tuple #[.string r1, .string r2, .bool r3]) ∧ Drawn0 w w' := by
  unfold strings_Cut.f at h
  split at h
  · rename_i hs
    obtain ⟨m, hm⟩ := hGU.maxLen
    simp only [Option.some.injEq, Prod.mk.injEq] at h
    obtain ⟨rfl, rfl, rfl⟩ := h
    exact (Tryz.strings_Cut a0 a1 m w hs hm).mono fun e w' ⟨h1, n, h2⟩ => ⟨h1, ⟨n, h2⟩⟩
  · cases h
def strings_Contains.f (a0 : ByteArray) (a1 : ByteArray) : Option (Bool) :=
  if a0.size < 4294967281 then some (Lib.contains a0.data.toList a1.data.toList) else none
theorem strings_Contains.calls (a0 : ByteArray) (a1 : ByteArray) (r : Bool) (w : World) (h : strings_Contains.f a0 a1 = some r) (hGU : GU w := by exact gUT) :
    Calls Tryz.prog 122 #[.string a0, .string a1] w fun e w' => e = .returned (.bool r) ∧ Drawn0 w w' := by
  unfold strings_Contains.f at h
  split at h
  · rename_i hs
    obtain ⟨m, hm⟩ := hGU.maxLen
    obtain rfl := Option.some.inj h
    refine (Tryz.strings_Contains a0 a1 m w hs hm).mono fun e w' ⟨h1, h2⟩ => ⟨h1, ?_⟩
    rw [h2]; exact Drawn0.refl w
  · cases h
def strings_Trim.f (a0 : ByteArray) (a1 : ByteArray) : Option (ByteArray) :=
  if a0.size < 4294967281 ∧ a1.size < 4294967281 ∧ asciiL a1 = true then some (mkB (Lib.trimS a0.data.toList a1.data.toList)) else none
theorem strings_Trim.calls (a0 : ByteArray) (a1 : ByteArray) (r : ByteArray) (w : World) (h : strings_Trim.f a0 a1 = some r) :
    Calls Tryz.prog 126 #[.string a0, .string a1] w fun e w' => e = .returned (.string r) ∧ Below w.heap.size w w' := by
  unfold strings_Trim.f at h
  split at h
  · rename_i hs
    obtain rfl := Option.some.inj h
    exact Any.strings_Trim_laid Tryz.lays160 (by kernel_rfl) a0 a1 w (by omega) hs.2.1 (asciiL_at hs.2.2)
  · cases h
def strings_TrimLeft.f (a0 : ByteArray) (a1 : ByteArray) : Option (ByteArray) :=
  if a0.size < 4294967281 ∧ a1.size < 4294967281 ∧ asciiL a1 = true then some (mkB (Lib.trimLeftS a0.data.toList a1.data.toList)) else none
theorem strings_TrimLeft.calls (a0 : ByteArray) (a1 : ByteArray) (r : ByteArray) (w : World) (h : strings_TrimLeft.f a0 a1 = some r) :
    Calls Tryz.prog 162 #[.string a0, .string a1] w fun e w' => e = .returned (.string r) ∧ Below w.heap.size w w' := by
  unfold strings_TrimLeft.f at h
  split at h
  · rename_i hs
    obtain rfl := Option.some.inj h
    exact Any.strings_TrimLeft_laid Tryz.lays161 (by kernel_rfl) a0 a1 w hs.2.1 (asciiL_at hs.2.2)
  · cases h
def strings_TrimRight.f (a0 : ByteArray) (a1 : ByteArray) : Option (ByteArray) :=
  if a0.size < 4294967281 ∧ a1.size < 4294967281 ∧ asciiL a1 = true then some (mkB (Lib.trimRightS a0.data.toList a1.data.toList)) else none
theorem strings_TrimRight.calls (a0 : ByteArray) (a1 : ByteArray) (r : ByteArray) (w : World) (h : strings_TrimRight.f a0 a1 = some r) :
    Calls Tryz.prog 125 #[.string a0, .string a1] w fun e w' => e = .returned (.string r) ∧ Below w.heap.size w w' := by
  unfold strings_TrimRight.f at h
  split at h
  · rename_i hs
    obtain rfl := Option.some.inj h
    exact Any.strings_TrimRight_laid Tryz.lays162 (by kernel_rfl) a0 a1 w (by omega) hs.2.1 (asciiL_at hs.2.2)
  · cases h
def strings_IndexByte.f (a0 : ByteArray) (a1 : Int) : Option (Int) := some (Lib.indexByte a0.data.toList a1.toNat.toUInt8)
theorem strings_IndexByte.calls (a0 : ByteArray) (a1 : Int) (r : Int) (w : World) (h : strings_IndexByte.f a0 a1 = some r) :
    Calls Tryz.prog 195 #[.string a0, .int .u8 a1] w fun e w' => e = .returned (.int .i64 r) ∧ Drawn0 w w' := by
  obtain rfl := Option.some.inj h
  refine (Tryz.strings_IndexByte a0 a1 w).mono fun e w' ⟨h1, h2⟩ => ⟨h1, ?_⟩
  rw [h2]; exact Drawn0.refl w
end Go.Proofs.YtjohcncekfcgpaaGreatDoor.P
end
section
set_option linter.unusedVariables false
namespace Go.Proofs.YtjohcncekfcgpaaGreatDoor.P
open Go.RowKit Go.Shelf Go.Proofs.YtjohcncekfcgpaaGreatDoorW.PrintWords Go.Proofs.YtjohcncekfcgpaaGreatDoorW.PrintLast
theorem hib (n : Nat) (h1 : 128 ≤ n) (h2 : n < 256) : 128 ≤ (UInt8.ofNat n).toNat := by rw [UInt8.toNat_ofNat']; omega
theorem encode_high (r : Int) (h : 128 ≤ r) : (∃ x y, Utf8.encode r = ⟨#[x, y]⟩ ∧ 128 ≤ y.toNat) ∨ (∃ x y z, Utf8.encode r = ⟨#[x, y, z]⟩ ∧ 128 ≤ z.toNat) ∨ (∃ x y z u, Utf8.encode r = ⟨#[x, y, z, u]⟩ ∧ 128 ≤ u.toNat) := by
  unfold Utf8.encode
  obtain ⟨c, hc⟩ : ∃ c, c = (if Utf8.valid r then r.toNat else Utf8.runeError) := ⟨_, rfl⟩
  have h1 : ¬ c < 128 := by
    rw [hc]; split
    · omega
    · decide
  simp only [← hc]
  rw [if_neg h1]
  split
  · exact .inl ⟨_, _, rfl, hib _ (by omega) (by omega)⟩
  · split
    · exact .inr (.inl ⟨_, _, _, rfl, hib _ (by omega) (by omega)⟩)
    · exact .inr (.inr ⟨_, _, _, _, rfl, hib _ (by omega) (by omega)⟩)
def IsB (e : Ending) : Prop := ∃ b : Bool, e = .returned (.bool b)
set_option maxHeartbeats 2000000 in
set_option maxRecDepth 1000000 in
theorem validRune (r : Int) (w : World) : Calls Tryz.prog 196 #[.int .i32 r] w fun e w' => IsB e ∧ w' = w := by
  go_enter Tryz.func196, Tryz.ntmps196
  go_wp2
  all_goals go_ret
  all_goals exact ⟨⟨_, rfl⟩, rfl⟩
theorem indexByte_not : ∀ {l : List UInt8} {c : UInt8}, c ∉ l → Lib.indexByte l c = -1
  | [], _, _ => rfl
  | b :: l, c, h => by
    have h1 := indexByte_not (l := l) (c := c) (fun hm => h (List.mem_cons_of_mem _ hm))
    have h2 : (b == c) = false := by simp only [beq_eq_false_iff_ne, ne_eq]; rintro rfl; exact h List.mem_cons_self
    unfold Lib.indexByte; rw [h1]; simp [h2]
theorem noByte (chars : ByteArray) (hascii : ∀ (j : Nat) b, chars.data.toList[j]? = some b → b.toNat < 128) (k : Nat) (c : UInt8) (hc : 128 ≤ c.toNat) : Lib.indexByte (chars.extract k chars.size).data.toList c = -1 := by
  refine indexByte_not (fun hm => ?_)
  rw [ByteArray.data_extract, Array.toList_extract] at hm
  have hm2 : c ∈ chars.data.toList := List.mem_of_mem_drop (List.mem_of_mem_take hm)
  obtain ⟨j, hj⟩ := List.mem_iff_getElem?.1 hm2
  have := hascii j c hj
  omega
set_option maxHeartbeats 8000000 in
set_option maxRecDepth 1000000 in
theorem indexRune_high (chars : ByteArray) (r : Int) (w : World) (hs : chars.size < 4294967281) (hascii : ∀ (j : Nat) b, chars.data.toList[j]? = some b → b.toNat < 128) (h0 : 128 ≤ r) (h1 : r ≤ 2147483647) :
    Calls Tryz.prog 139 #[.string chars, .int .i32 r] w fun e w' => e = .returned (.int .i64 (-1)) ∧ Below w.heap.size w w' := by
  have hq1 : (decide (r < 128)) = false := by simp; omega
  have hq0 : (decide (0 ≤ r)) = true := by simp; omega
  have hu1 := Tryz.underlying21
  have hu2 := Tryz.underlying9
  by_cases hr : r = 65533
  · subst hr
    have HA := Lib.hid hascii
    clear hascii
    go_enter Tryz.func139, Tryz.ntmps139
    go_wp2
    iterate 5 (try (first | go_step3 | simp only [Exit.noGoto_ret, Exit.noGoto_normal, Exit.noGoto_exit]); (try go_wp2))
    go_loopw [] (fun wr => ∃ pos : Nat, pos ≤ chars.size ∧ wr.heap[w.heap.size]? = some (.stringIter chars pos) ∧ Below w.heap.size w wr) (fun wr => chars.size - wr.iterPos w.heap.size)
    case atStart =>
      refine ⟨0, Nat.zero_le _, ?_, (Below.refl _ w).alloc (Nat.le_refl _) _⟩
      have := World.iter_heap w chars 0
      simpa using this
    case round =>
      obtain ⟨pos, hpos, hit, hbw⟩ := hrel
      have hsz : w.heap.size < wr.heap.size := (Array.getElem?_eq_some_iff.1 hit).1
      by_cases hp : pos < chars.size
      · have hnx : ∀ ty, (Instr.next (.pointer (some ⟨w.heap.size, 0, none⟩)) true ty).run Tryz.prog wr = _ := fun ty => Lib.run_next_any_at wr w.heap.size chars pos ty hit hp
        have ha : (chars[pos]).toNat < 128 := HA.out pos _ (by rw [List.getElem?_eq_getElem (by simpa using hp)]; rfl)
        have hit2 := Lib.iterAt_heap wr w.heap.size chars pos (pos + (Utf8.decode chars pos).2) hit
        have hbw2 := Lib.below_iterAt hbw (k := w.heap.size) (by omega) chars (pos + (Utf8.decode chars pos).2)
        have hd := decode_ascii chars pos hp ha
        rw [hd] at hnx hit2 hbw2
        have hne : ((chars[pos].toNat : Int) == 65533) = false := by simp only [beq_eq_false_iff_ne, ne_eq]; omega
        clear hd
        go_wp2
        go_roundw
        case rel => exact ⟨pos + 1, by omega, hit2, hbw2⟩
        case measure =>
          have e0 : wr.iterPos w.heap.size = pos := by simp only [World.iterPos, hit]
          have e1 : (wr.iterAt w.heap.size chars (pos + 1)).iterPos w.heap.size = pos + 1 := by simp only [World.iterPos, hit2]
          rw [e0, e1]
          omega
      · have hnx : ∀ ty, (Instr.next (.pointer (some ⟨w.heap.size, 0, none⟩)) true ty).run Tryz.prog wr = _ := fun ty => Lib.run_next_end_at wr w.heap.size chars pos ty hit hp
        go_wp2
        iterate 5 (try (first | go_step3 | simp only [Exit.noGoto_ret, Exit.noGoto_normal, Exit.noGoto_exit]); (try go_wp2))
        go_ret
        exact ⟨rfl, hbw⟩
  · have hrb : (r == 65533) = false := by simpa using hr
    have HA := Lib.hid hascii
    clear hascii
    rcases encode_high r h0 with ⟨x, y, hE, hy⟩ | ⟨x, y, z, hE, hy⟩ | ⟨x, y, z, u, hE, hy⟩
    · go_enter Tryz.func139, Tryz.ntmps139
      go_wp2_with (go_at_call 196; refine (validRune r _).mono ?_; rintro e w1 ⟨⟨b, rfl⟩, rfl⟩; cases b)
      · go_ret
        exact ⟨rfl, Below.refl _ _⟩
      · go_wp2
        go_step3
        go_wp2
        go_loopw [9] (fun v wr => v = .int .i64 1 ∧ wr = w1) (fun _ _ => 0)
        case atStart => exact ⟨rfl, rfl⟩
        case round =>
          obtain ⟨rfl, rfl⟩ := hrel
          by_cases hlt : 1 < chars.size
          · have q1 : ((1 : Int) < (chars.size : Int)) = True := eq_true (by omega)
            have q2 : (1 < chars.size) = True := eq_true hlt
            have hn : (chars[1]).toNat < 128 := HA.out 1 _ (by rw [List.getElem?_eq_getElem (by simpa using hlt)]; rfl)
            have hne : (((chars[1]).toNat : Int) != (((⟨#[x, y]⟩ : ByteArray)[1]'(show 1 < 2 by decide)).toNat : Int)) = true := by show (_ != (y.toNat : Int)) = true; simp only [bne_iff_ne, ne_eq]; omega
            have hnb : Lib.indexByte (chars.extract 2 chars.size).data.toList ((((⟨#[x, y]⟩ : ByteArray)[1]'(show 1 < 2 by decide)).toNat : Int)).toNat.toUInt8 = -1 := by
              have e : ((((⟨#[x, y]⟩ : ByteArray)[1]'(show 1 < 2 by decide)).toNat : Int)).toNat.toUInt8 = y := by show ((y.toNat : Int)).toNat.toUInt8 = y; simp
              rw [e]; exact noByte chars HA.out _ _ hy
            have hle : ((2 : Int) ≤ (chars.size : Int)) = True := eq_true (by omega)
            have hle2 : (2 ≤ chars.size) = True := eq_true (by omega)
            have hw2 : wrap64 2 = 2 := by unfold wrap64; rfl
            go_wp2
            try go_step3
            try go_wp2
            try go_step3
            try go_wp2
            refine start_ (n := 7) (S := (fun _ => True)) (ds := []) #[false, false, false, false, false, false, false] (by kernel_rfl) rfl rfl trivial (fun hHeld => ?_)
            refine pure_ (i := 0) (N := some 27) (v := ?_) (a' := ?_) #[true, false, false, false, false, false, false] rfl rfl (by kernel_rfl) (fun _ _ _ h => h) (Or.inl ⟨by rfl, ?_⟩) ?_ ?_
            rotate_left
            · intro w'
              go_simp
              with_reducible rfl
            rotate_left
            · simp only [Act.put, List.setIfInBounds_toArray, List.set_cons_zero, List.set_cons_succ, i64_w, i32_w]
              rfl
            refine pure_ (i := 1) (N := some 28) (v := ?_) (a' := ?_) #[true, true, false, false, false, false, false] rfl rfl (by kernel_rfl) (fun _ _ _ h => h) (Or.inl ⟨by rfl, ?_⟩) ?_ ?_
            rotate_left
            · intro w'
              go_simp
              with_reducible rfl
            rotate_left
            · simp only [Act.put, List.setIfInBounds_toArray, List.set_cons_zero, List.set_cons_succ, i64_w, i32_w]
              rfl
            refine pure_ (i := 2) (N := some 29) (v := ?_) (a' := ?_) #[true, true, true, false, false, false, false] rfl rfl (by kernel_rfl) (fun _ _ _ h => h) (Or.inl ⟨by rfl, ?_⟩) ?_ ?_
            rotate_left
            · intro w'
              go_simp
              with_reducible rfl
            rotate_left
            · simp only [Act.put, List.setIfInBounds_toArray, List.set_cons_zero, List.set_cons_succ, i64_w, i32_w]
              rfl
            refine pure_ (i := 3) (N := some 30) (v := ?_) (a' := ?_) #[true, true, true, true, false, false, false] rfl rfl (by kernel_rfl) (fun _ _ _ h => h) (Or.inl ⟨by rfl, ?_⟩) ?_ ?_
            rotate_left
            · intro w'
              go_simp
              with_reducible rfl
            rotate_left
            · simp only [Act.put, List.setIfInBounds_toArray, List.set_cons_zero, List.set_cons_succ, i64_w, i32_w]
              rfl
            refine pure_ (i := 4) (N := some 31) (v := ?_) (a' := ?_) #[true, true, true, true, true, false, false] rfl rfl (by kernel_rfl) (fun _ _ _ h => h) (Or.inl ⟨by rfl, ?_⟩) ?_ ?_
            rotate_left
            · intro w'
              go_simp
              with_reducible rfl
            rotate_left
            · simp only [Act.put, List.setIfInBounds_toArray, List.set_cons_zero, List.set_cons_succ, i64_w, i32_w]
              rfl
            refine pure_ (i := 5) (N := some 32) (v := ?_) (a' := ?_) #[true, true, true, true, true, true, false] rfl rfl (by kernel_rfl) (fun _ _ _ h => h) (Or.inl ⟨by rfl, ?_⟩) ?_ ?_
            rotate_left
            · intro w'
              go_simp
              with_reducible rfl
            rotate_left
            · simp only [Act.put, List.setIfInBounds_toArray, List.set_cons_zero, List.set_cons_succ, i64_w, i32_w]
              rfl
            refine pure_ (i := 6) (N := some 33) (v := ?_) (a' := ?_) #[true, true, true, true, true, true, true] rfl rfl (by kernel_rfl) (fun _ _ _ h => h) (Or.inl ⟨by rfl, ?_⟩) ?_ ?_
            rotate_left
            · intro w'
              go_simp
              with_reducible rfl
            rotate_left
            · simp only [Act.put, List.setIfInBounds_toArray, List.set_cons_zero, List.set_cons_succ, i64_w, i32_w]
              rfl
            refine done_ (by kernel_rfl) ?_
            go_wp2
            refine start_ (n := 9) (S := (fun _ => True)) (ds := []) #[false, false, false, false, false, false, false, false, false] (by kernel_rfl) rfl rfl trivial (fun hHeld => ?_)
            refine pure_ (i := 0) (N := some 34) (v := ?_) (a' := ?_) #[true, false, false, false, false, false, false, false, false] rfl rfl (by kernel_rfl) (fun _ _ _ h => h) (Or.inl ⟨by rfl, ?_⟩) ?_ ?_
            rotate_left
            · intro w'
              go_simp
              with_reducible rfl
            rotate_left
            · simp only [Act.put, List.setIfInBounds_toArray, List.set_cons_zero, List.set_cons_succ, i64_w, i32_w]
              rfl
            refine pure_ (i := 1) (N := some 35) (v := ?_) (a' := ?_) #[true, true, false, false, false, false, false, false, false] rfl rfl (by kernel_rfl) (fun _ _ _ h => h) (Or.inl ⟨by rfl, ?_⟩) ?_ ?_
            rotate_left
            · intro w'
              go_simp
              with_reducible rfl
            rotate_left
            · simp only [Act.put, List.setIfInBounds_toArray, List.set_cons_zero, List.set_cons_succ, i64_w, i32_w]
              rfl
            refine pure_ (i := 2) (N := some 36) (v := ?_) (a' := ?_) #[true, true, true, false, false, false, false, false, false] rfl rfl (by kernel_rfl) (fun _ _ _ h => h) (Or.inl ⟨by rfl, ?_⟩) ?_ ?_
            rotate_left
            · intro w'
              go_simp
              with_reducible rfl
            rotate_left
            · simp only [Act.put, List.setIfInBounds_toArray, List.set_cons_zero, List.set_cons_succ, i64_w, i32_w]
              rfl
            refine pure_ (i := 3) (N := some 37) (v := ?_) (a' := ?_) #[true, true, true, true, false, false, false, false, false] rfl rfl (by kernel_rfl) (fun _ _ _ h => h) (Or.inl ⟨by rfl, ?_⟩) ?_ ?_
            rotate_left
            · intro w'
              go_simp
              with_reducible rfl
            rotate_left
            · simp only [Act.put, List.setIfInBounds_toArray, List.set_cons_zero, List.set_cons_succ, i64_w, i32_w]
              rfl
            refine pure_ (i := 4) (N := some 38) (v := ?_) (a' := ?_) #[true, true, true, true, true, false, false, false, false] rfl rfl (by kernel_rfl) (fun _ _ _ h => h) (Or.inl ⟨by rfl, ?_⟩) ?_ ?_
            rotate_left
            · intro w'
              go_simp
              with_reducible rfl
            rotate_left
            · simp only [Act.put, List.setIfInBounds_toArray, List.set_cons_zero, List.set_cons_succ, i64_w, i32_w]
              rfl
            refine pure_ (i := 5) (N := some 39) (v := ?_) (a' := ?_) #[true, true, true, true, true, true, false, false, false] rfl rfl (by kernel_rfl) (fun _ _ _ h => h) (Or.inl ⟨by rfl, ?_⟩) ?_ ?_
            rotate_left
            · intro w'
              go_simp
              with_reducible rfl
            rotate_left
            · simp only [Act.put, List.setIfInBounds_toArray, List.set_cons_zero, List.set_cons_succ, i64_w, i32_w]
              rfl
            refine pure_ (i := 6) (N := some 40) (v := ?_) (a' := ?_) #[true, true, true, true, true, true, true, false, false] rfl rfl (by kernel_rfl) (fun _ _ _ h => h) (Or.inl ⟨by rfl, ?_⟩) ?_ ?_
            rotate_left
            · intro w'
              go_simp
              with_reducible rfl
            rotate_left
            · simp only [Act.put, List.setIfInBounds_toArray, List.set_cons_zero, List.set_cons_succ, i64_w, i32_w]
              rfl
            refine one_ (i := 7) (N := some 41) #[true, true, true, true, true, true, true, true, false] rfl rfl (by kernel_rfl) (by decide) (fun K hK => ?_)
            refine goes_ Tryz.func195 (by kernel_rfl) rfl #[.string (chars.extract 2 chars.size), .int .u8 (((⟨#[x, y]⟩ : ByteArray)[1]'(show 1 < 2 by decide)).toNat : Int)] (by rfl) rfl rfl (by (try simp only [List.map_toArray, List.map_cons, List.map_nil]); first | done | rfl | (simp [Act.eval]; exact ⟨rfl, rfl⟩)) ?_
            refine (Tryz.strings_IndexByte _ _ _).mono ?_
            rintro e w2 ⟨rfl, rfl⟩
            refine ⟨.int .i64 (-1), by rw [hnb], hK.out _ _ trivial (fun hHeld => ?_)⟩
            clear hK K
            refine norm_ (a' := ?_) ?_ ?_
            rotate_left
            · show Act.put _ (some 41) _ = _
              simp only [Act.put, List.setIfInBounds_toArray, List.set_cons_zero, List.set_cons_succ, i64_w, i32_w]
              rfl
            refine pure_ (i := 8) (N := some 11) (v := ?_) (a' := ?_) #[true, true, true, true, true, true, true, true, true] rfl rfl (by kernel_rfl) (fun _ _ _ h => h) (Or.inl ⟨by rfl, ?_⟩) ?_ ?_
            rotate_left
            · intro w'
              go_simp
              with_reducible rfl
            rotate_left
            · simp only [Act.put, List.setIfInBounds_toArray, List.set_cons_zero, List.set_cons_succ, i64_w, i32_w]
              rfl
            refine done_ (by kernel_rfl) ?_
            go_wp2
            iterate 5 (try (first | go_step3 | simp only [Exit.noGoto_ret, Exit.noGoto_normal, Exit.noGoto_exit]); (try go_wp2))
            go_ret
            exact ⟨rfl, by repeat (first | exact Below.refl _ _ | apply Go.Proofs.YtjohcncekfcgpaaGreatDoorW.PrintWords.below_drew)⟩
          · have q1 : ((1 : Int) < (chars.size : Int)) = False := eq_false (by omega)
            have q2 : (1 < chars.size) = False := eq_false hlt
            go_wp2
            iterate 5 (try (first | go_step3 | simp only [Exit.noGoto_ret, Exit.noGoto_normal, Exit.noGoto_exit]); (try go_wp2))
            go_ret
            exact ⟨rfl, Below.refl _ _⟩
    · go_enter Tryz.func139, Tryz.ntmps139
      go_wp2_with (go_at_call 196; refine (validRune r _).mono ?_; rintro e w1 ⟨⟨b, rfl⟩, rfl⟩; cases b)
      · go_ret
        exact ⟨rfl, Below.refl _ _⟩
      · go_wp2
        go_step3
        go_wp2
        go_loopw [9] (fun v wr => v = .int .i64 2 ∧ wr = w1) (fun _ _ => 0)
        case atStart => exact ⟨rfl, rfl⟩
        case round =>
          obtain ⟨rfl, rfl⟩ := hrel
          by_cases hlt : 2 < chars.size
          · have q1 : ((2 : Int) < (chars.size : Int)) = True := eq_true (by omega)
            have q2 : (2 < chars.size) = True := eq_true hlt
            have hn : (chars[2]).toNat < 128 := HA.out 2 _ (by rw [List.getElem?_eq_getElem (by simpa using hlt)]; rfl)
            have hne : (((chars[2]).toNat : Int) != (((⟨#[x, y, z]⟩ : ByteArray)[2]'(show 2 < 3 by decide)).toNat : Int)) = true := by show (_ != (z.toNat : Int)) = true; simp only [bne_iff_ne, ne_eq]; omega
            have hnb : Lib.indexByte (chars.extract 3 chars.size).data.toList ((((⟨#[x, y, z]⟩ : ByteArray)[2]'(show 2 < 3 by decide)).toNat : Int)).toNat.toUInt8 = -1 := by
              have e : ((((⟨#[x, y, z]⟩ : ByteArray)[2]'(show 2 < 3 by decide)).toNat : Int)).toNat.toUInt8 = z := by show ((z.toNat : Int)).toNat.toUInt8 = z; simp
              rw [e]; exact noByte chars HA.out _ _ hy
            have hle : ((3 : Int) ≤ (chars.size : Int)) = True := eq_true (by omega)
            have hle2 : (3 ≤ chars.size) = True := eq_true (by omega)
            have hw2 : wrap64 3 = 3 := by unfold wrap64; rfl
            go_wp2
            try go_step3
            try go_wp2
            try go_step3
            try go_wp2
            refine start_ (n := 7) (S := (fun _ => True)) (ds := []) #[false, false, false, false, false, false, false] (by kernel_rfl) rfl rfl trivial (fun hHeld => ?_)
            refine pure_ (i := 0) (N := some 27) (v := ?_) (a' := ?_) #[true, false, false, false, false, false, false] rfl rfl (by kernel_rfl) (fun _ _ _ h => h) (Or.inl ⟨by rfl, ?_⟩) ?_ ?_
            rotate_left
            · intro w'
              go_simp
              with_reducible rfl
            rotate_left
            · simp only [Act.put, List.setIfInBounds_toArray, List.set_cons_zero, List.set_cons_succ, i64_w, i32_w]
              rfl
            refine pure_ (i := 1) (N := some 28) (v := ?_) (a' := ?_) #[true, true, false, false, false, false, false] rfl rfl (by kernel_rfl) (fun _ _ _ h => h) (Or.inl ⟨by rfl, ?_⟩) ?_ ?_
            rotate_left
            · intro w'
              go_simp
              with_reducible rfl
            rotate_left
            · simp only [Act.put, List.setIfInBounds_toArray, List.set_cons_zero, List.set_cons_succ, i64_w, i32_w]
              rfl
            refine pure_ (i := 2) (N := some 29) (v := ?_) (a' := ?_) #[true, true, true, false, false, false, false] rfl rfl (by kernel_rfl) (fun _ _ _ h => h) (Or.inl ⟨by rfl, ?_⟩) ?_ ?_
            rotate_left
            · intro w'
              go_simp
              with_reducible rfl
            rotate_left
            · simp only [Act.put, List.setIfInBounds_toArray, List.set_cons_zero, List.set_cons_succ, i64_w, i32_w]
              rfl
            refine pure_ (i := 3) (N := some 30) (v := ?_) (a' := ?_) #[true, true, true, true, false, false, false] rfl rfl (by kernel_rfl) (fun _ _ _ h => h) (Or.inl ⟨by rfl, ?_⟩) ?_ ?_
            rotate_left
            · intro w'
              go_simp
              with_reducible rfl
            rotate_left
            · simp only [Act.put, List.setIfInBounds_toArray, List.set_cons_zero, List.set_cons_succ, i64_w, i32_w]
              rfl
            refine pure_ (i := 4) (N := some 31) (v := ?_) (a' := ?_) #[true, true, true, true, true, false, false] rfl rfl (by kernel_rfl) (fun _ _ _ h => h) (Or.inl ⟨by rfl, ?_⟩) ?_ ?_
            rotate_left
            · intro w'
              go_simp
              with_reducible rfl
            rotate_left
            · simp only [Act.put, List.setIfInBounds_toArray, List.set_cons_zero, List.set_cons_succ, i64_w, i32_w]
              rfl
            refine pure_ (i := 5) (N := some 32) (v := ?_) (a' := ?_) #[true, true, true, true, true, true, false] rfl rfl (by kernel_rfl) (fun _ _ _ h => h) (Or.inl ⟨by rfl, ?_⟩) ?_ ?_
            rotate_left
            · intro w'
              go_simp
              with_reducible rfl
            rotate_left
            · simp only [Act.put, List.setIfInBounds_toArray, List.set_cons_zero, List.set_cons_succ, i64_w, i32_w]
              rfl
            refine pure_ (i := 6) (N := some 33) (v := ?_) (a' := ?_) #[true, true, true, true, true, true, true] rfl rfl (by kernel_rfl) (fun _ _ _ h => h) (Or.inl ⟨by rfl, ?_⟩) ?_ ?_
            rotate_left
            · intro w'
              go_simp
              with_reducible rfl
            rotate_left
            · simp only [Act.put, List.setIfInBounds_toArray, List.set_cons_zero, List.set_cons_succ, i64_w, i32_w]
              rfl
            refine done_ (by kernel_rfl) ?_
            go_wp2
            refine start_ (n := 9) (S := (fun _ => True)) (ds := []) #[false, false, false, false, false, false, false, false, false] (by kernel_rfl) rfl rfl trivial (fun hHeld => ?_)
            refine pure_ (i := 0) (N := some 34) (v := ?_) (a' := ?_) #[true, false, false, false, false, false, false, false, false] rfl rfl (by kernel_rfl) (fun _ _ _ h => h) (Or.inl ⟨by rfl, ?_⟩) ?_ ?_
            rotate_left
            · intro w'
              go_simp
              with_reducible rfl
            rotate_left
            · simp only [Act.put, List.setIfInBounds_toArray, List.set_cons_zero, List.set_cons_succ, i64_w, i32_w]
              rfl
            refine pure_ (i := 1) (N := some 35) (v := ?_) (a' := ?_) #[true, true, false, false, false, false, false, false, false] rfl rfl (by kernel_rfl) (fun _ _ _ h => h) (Or.inl ⟨by rfl, ?_⟩) ?_ ?_
            rotate_left
            · intro w'
              go_simp
              with_reducible rfl
            rotate_left
            · simp only [Act.put, List.setIfInBounds_toArray, List.set_cons_zero, List.set_cons_succ, i64_w, i32_w]
              rfl
            refine pure_ (i := 2) (N := some 36) (v := ?_) (a' := ?_) #[true, true, true, false, false, false, false, false, false] rfl rfl (by kernel_rfl) (fun _ _ _ h => h) (Or.inl ⟨by rfl, ?_⟩) ?_ ?_
            rotate_left
            · intro w'
              go_simp
              with_reducible rfl
            rotate_left
            · simp only [Act.put, List.setIfInBounds_toArray, List.set_cons_zero, List.set_cons_succ, i64_w, i32_w]
              rfl
            refine pure_ (i := 3) (N := some 37) (v := ?_) (a' := ?_) #[true, true, true, true, false, false, false, false, false] rfl rfl (by kernel_rfl) (fun _ _ _ h => h) (Or.inl ⟨by rfl, ?_⟩) ?_ ?_
            rotate_left
            · intro w'
              go_simp
              with_reducible rfl
            rotate_left
            · simp only [Act.put, List.setIfInBounds_toArray, List.set_cons_zero, List.set_cons_succ, i64_w, i32_w]
              rfl
            refine pure_ (i := 4) (N := some 38) (v := ?_) (a' := ?_) #[true, true, true, true, true, false, false, false, false] rfl rfl (by kernel_rfl) (fun _ _ _ h => h) (Or.inl ⟨by rfl, ?_⟩) ?_ ?_
            rotate_left
            · intro w'
              go_simp
              with_reducible rfl
            rotate_left
            · simp only [Act.put, List.setIfInBounds_toArray, List.set_cons_zero, List.set_cons_succ, i64_w, i32_w]
              rfl
            refine pure_ (i := 5) (N := some 39) (v := ?_) (a' := ?_) #[true, true, true, true, true, true, false, false, false] rfl rfl (by kernel_rfl) (fun _ _ _ h => h) (Or.inl ⟨by rfl, ?_⟩) ?_ ?_
            rotate_left
            · intro w'
              go_simp
              with_reducible rfl
            rotate_left
            · simp only [Act.put, List.setIfInBounds_toArray, List.set_cons_zero, List.set_cons_succ, i64_w, i32_w]
              rfl
            refine pure_ (i := 6) (N := some 40) (v := ?_) (a' := ?_) #[true, true, true, true, true, true, true, false, false] rfl rfl (by kernel_rfl) (fun _ _ _ h => h) (Or.inl ⟨by rfl, ?_⟩) ?_ ?_
            rotate_left
            · intro w'
              go_simp
              with_reducible rfl
            rotate_left
            · simp only [Act.put, List.setIfInBounds_toArray, List.set_cons_zero, List.set_cons_succ, i64_w, i32_w]
              rfl
            refine one_ (i := 7) (N := some 41) #[true, true, true, true, true, true, true, true, false] rfl rfl (by kernel_rfl) (by decide) (fun K hK => ?_)
            refine goes_ Tryz.func195 (by kernel_rfl) rfl #[.string (chars.extract 3 chars.size), .int .u8 (((⟨#[x, y, z]⟩ : ByteArray)[2]'(show 2 < 3 by decide)).toNat : Int)] (by rfl) rfl rfl (by (try simp only [List.map_toArray, List.map_cons, List.map_nil]); first | done | rfl | (simp [Act.eval]; exact ⟨rfl, rfl⟩)) ?_
            refine (Tryz.strings_IndexByte _ _ _).mono ?_
            rintro e w2 ⟨rfl, rfl⟩
            refine ⟨.int .i64 (-1), by rw [hnb], hK.out _ _ trivial (fun hHeld => ?_)⟩
            clear hK K
            refine norm_ (a' := ?_) ?_ ?_
            rotate_left
            · show Act.put _ (some 41) _ = _
              simp only [Act.put, List.setIfInBounds_toArray, List.set_cons_zero, List.set_cons_succ, i64_w, i32_w]
              rfl
            refine pure_ (i := 8) (N := some 11) (v := ?_) (a' := ?_) #[true, true, true, true, true, true, true, true, true] rfl rfl (by kernel_rfl) (fun _ _ _ h => h) (Or.inl ⟨by rfl, ?_⟩) ?_ ?_
            rotate_left
            · intro w'
              go_simp
              with_reducible rfl
            rotate_left
            · simp only [Act.put, List.setIfInBounds_toArray, List.set_cons_zero, List.set_cons_succ, i64_w, i32_w]
              rfl
            refine done_ (by kernel_rfl) ?_
            go_wp2
            iterate 5 (try (first | go_step3 | simp only [Exit.noGoto_ret, Exit.noGoto_normal, Exit.noGoto_exit]); (try go_wp2))
            go_ret
            exact ⟨rfl, by repeat (first | exact Below.refl _ _ | apply Go.Proofs.YtjohcncekfcgpaaGreatDoorW.PrintWords.below_drew)⟩
          · have q1 : ((2 : Int) < (chars.size : Int)) = False := eq_false (by omega)
            have q2 : (2 < chars.size) = False := eq_false hlt
            go_wp2
            iterate 5 (try (first | go_step3 | simp only [Exit.noGoto_ret, Exit.noGoto_normal, Exit.noGoto_exit]); (try go_wp2))
            go_ret
            exact ⟨rfl, Below.refl _ _⟩
    · go_enter Tryz.func139, Tryz.ntmps139
      go_wp2_with (go_at_call 196; refine (validRune r _).mono ?_; rintro e w1 ⟨⟨b, rfl⟩, rfl⟩; cases b)
      · go_ret
        exact ⟨rfl, Below.refl _ _⟩
      · go_wp2
        go_step3
        go_wp2
        go_loopw [9] (fun v wr => v = .int .i64 3 ∧ wr = w1) (fun _ _ => 0)
        case atStart => exact ⟨rfl, rfl⟩
        case round =>
          obtain ⟨rfl, rfl⟩ := hrel
          by_cases hlt : 3 < chars.size
          · have q1 : ((3 : Int) < (chars.size : Int)) = True := eq_true (by omega)
            have q2 : (3 < chars.size) = True := eq_true hlt
            have hn : (chars[3]).toNat < 128 := HA.out 3 _ (by rw [List.getElem?_eq_getElem (by simpa using hlt)]; rfl)
            have hne : (((chars[3]).toNat : Int) != (((⟨#[x, y, z, u]⟩ : ByteArray)[3]'(show 3 < 4 by decide)).toNat : Int)) = true := by show (_ != (u.toNat : Int)) = true; simp only [bne_iff_ne, ne_eq]; omega
            have hnb : Lib.indexByte (chars.extract 4 chars.size).data.toList ((((⟨#[x, y, z, u]⟩ : ByteArray)[3]'(show 3 < 4 by decide)).toNat : Int)).toNat.toUInt8 = -1 := by
              have e : ((((⟨#[x, y, z, u]⟩ : ByteArray)[3]'(show 3 < 4 by decide)).toNat : Int)).toNat.toUInt8 = u := by show ((u.toNat : Int)).toNat.toUInt8 = u; simp
              rw [e]; exact noByte chars HA.out _ _ hy
            have hle : ((4 : Int) ≤ (chars.size : Int)) = True := eq_true (by omega)
            have hle2 : (4 ≤ chars.size) = True := eq_true (by omega)
            have hw2 : wrap64 4 = 4 := by unfold wrap64; rfl
            go_wp2
            try go_step3
            try go_wp2
            try go_step3
            try go_wp2
            refine start_ (n := 7) (S := (fun _ => True)) (ds := []) #[false, false, false, false, false, false, false] (by kernel_rfl) rfl rfl trivial (fun hHeld => ?_)
            refine pure_ (i := 0) (N := some 27) (v := ?_) (a' := ?_) #[true, false, false, false, false, false, false] rfl rfl (by kernel_rfl) (fun _ _ _ h => h) (Or.inl ⟨by rfl, ?_⟩) ?_ ?_
            rotate_left
            · intro w'
              go_simp
              with_reducible rfl
            rotate_left
            · simp only [Act.put, List.setIfInBounds_toArray, List.set_cons_zero, List.set_cons_succ, i64_w, i32_w]
              rfl
            refine pure_ (i := 1) (N := some 28) (v := ?_) (a' := ?_) #[true, true, false, false, false, false, false] rfl rfl (by kernel_rfl) (fun _ _ _ h => h) (Or.inl ⟨by rfl, ?_⟩) ?_ ?_
            rotate_left
            · intro w'
              go_simp
              with_reducible rfl
            rotate_left
            · simp only [Act.put, List.setIfInBounds_toArray, List.set_cons_zero, List.set_cons_succ, i64_w, i32_w]
              rfl
            refine pure_ (i := 2) (N := some 29) (v := ?_) (a' := ?_) #[true, true, true, false, false, false, false] rfl rfl (by kernel_rfl) (fun _ _ _ h => h) (Or.inl ⟨by rfl, ?_⟩) ?_ ?_
            rotate_left
            · intro w'
              go_simp
              with_reducible rfl
            rotate_left
            · simp only [Act.put, List.setIfInBounds_toArray, List.set_cons_zero, List.set_cons_succ, i64_w, i32_w]
              rfl
            refine pure_ (i := 3) (N := some 30) (v := ?_) (a' := ?_) #[true, true, true, true, false, false, false] rfl rfl (by kernel_rfl) (fun _ _ _ h => h) (Or.inl ⟨by rfl, ?_⟩) ?_ ?_
            rotate_left
            · intro w'
              go_simp
              with_reducible rfl
            rotate_left
            · simp only [Act.put, List.setIfInBounds_toArray, List.set_cons_zero, List.set_cons_succ, i64_w, i32_w]
              rfl
            refine pure_ (i := 4) (N := some 31) (v := ?_) (a' := ?_) #[true, true, true, true, true, false, false] rfl rfl (by kernel_rfl) (fun _ _ _ h => h) (Or.inl ⟨by rfl, ?_⟩) ?_ ?_
            rotate_left
            · intro w'
              go_simp
              with_reducible rfl
            rotate_left
            · simp only [Act.put, List.setIfInBounds_toArray, List.set_cons_zero, List.set_cons_succ, i64_w, i32_w]
              rfl
            refine pure_ (i := 5) (N := some 32) (v := ?_) (a' := ?_) #[true, true, true, true, true, true, false] rfl rfl (by kernel_rfl) (fun _ _ _ h => h) (Or.inl ⟨by rfl, ?_⟩) ?_ ?_
            rotate_left
            · intro w'
              go_simp
              with_reducible rfl
            rotate_left
            · simp only [Act.put, List.setIfInBounds_toArray, List.set_cons_zero, List.set_cons_succ, i64_w, i32_w]
              rfl
            refine pure_ (i := 6) (N := some 33) (v := ?_) (a' := ?_) #[true, true, true, true, true, true, true] rfl rfl (by kernel_rfl) (fun _ _ _ h => h) (Or.inl ⟨by rfl, ?_⟩) ?_ ?_
            rotate_left
            · intro w'
              go_simp
              with_reducible rfl
            rotate_left
            · simp only [Act.put, List.setIfInBounds_toArray, List.set_cons_zero, List.set_cons_succ, i64_w, i32_w]
              rfl
            refine done_ (by kernel_rfl) ?_
            go_wp2
            refine start_ (n := 9) (S := (fun _ => True)) (ds := []) #[false, false, false, false, false, false, false, false, false] (by kernel_rfl) rfl rfl trivial (fun hHeld => ?_)
            refine pure_ (i := 0) (N := some 34) (v := ?_) (a' := ?_) #[true, false, false, false, false, false, false, false, false] rfl rfl (by kernel_rfl) (fun _ _ _ h => h) (Or.inl ⟨by rfl, ?_⟩) ?_ ?_
            rotate_left
            · intro w'
              go_simp
              with_reducible rfl
            rotate_left
            · simp only [Act.put, List.setIfInBounds_toArray, List.set_cons_zero, List.set_cons_succ, i64_w, i32_w]
              rfl
            refine pure_ (i := 1) (N := some 35) (v := ?_) (a' := ?_) #[true, true, false, false, false, false, false, false, false] rfl rfl (by kernel_rfl) (fun _ _ _ h => h) (Or.inl ⟨by rfl, ?_⟩) ?_ ?_
            rotate_left
            · intro w'
              go_simp
              with_reducible rfl
            rotate_left
            · simp only [Act.put, List.setIfInBounds_toArray, List.set_cons_zero, List.set_cons_succ, i64_w, i32_w]
              rfl
            refine pure_ (i := 2) (N := some 36) (v := ?_) (a' := ?_) #[true, true, true, false, false, false, false, false, false] rfl rfl (by kernel_rfl) (fun _ _ _ h => h) (Or.inl ⟨by rfl, ?_⟩) ?_ ?_
            rotate_left
            · intro w'
              go_simp
              with_reducible rfl
            rotate_left
            · simp only [Act.put, List.setIfInBounds_toArray, List.set_cons_zero, List.set_cons_succ, i64_w, i32_w]
              rfl
            refine pure_ (i := 3) (N := some 37) (v := ?_) (a' := ?_) #[true, true, true, true, false, false, false, false, false] rfl rfl (by kernel_rfl) (fun _ _ _ h => h) (Or.inl ⟨by rfl, ?_⟩) ?_ ?_
            rotate_left
            · intro w'
              go_simp
              with_reducible rfl
            rotate_left
            · simp only [Act.put, List.setIfInBounds_toArray, List.set_cons_zero, List.set_cons_succ, i64_w, i32_w]
              rfl
            refine pure_ (i := 4) (N := some 38) (v := ?_) (a' := ?_) #[true, true, true, true, true, false, false, false, false] rfl rfl (by kernel_rfl) (fun _ _ _ h => h) (Or.inl ⟨by rfl, ?_⟩) ?_ ?_
            rotate_left
            · intro w'
              go_simp
              with_reducible rfl
            rotate_left
            · simp only [Act.put, List.setIfInBounds_toArray, List.set_cons_zero, List.set_cons_succ, i64_w, i32_w]
              rfl
            refine pure_ (i := 5) (N := some 39) (v := ?_) (a' := ?_) #[true, true, true, true, true, true, false, false, false] rfl rfl (by kernel_rfl) (fun _ _ _ h => h) (Or.inl ⟨by rfl, ?_⟩) ?_ ?_
            rotate_left
            · intro w'
              go_simp
              with_reducible rfl
            rotate_left
            · simp only [Act.put, List.setIfInBounds_toArray, List.set_cons_zero, List.set_cons_succ, i64_w, i32_w]
              rfl
            refine pure_ (i := 6) (N := some 40) (v := ?_) (a' := ?_) #[true, true, true, true, true, true, true, false, false] rfl rfl (by kernel_rfl) (fun _ _ _ h => h) (Or.inl ⟨by rfl, ?_⟩) ?_ ?_
            rotate_left
            · intro w'
              go_simp
              with_reducible rfl
            rotate_left
            · simp only [Act.put, List.setIfInBounds_toArray, List.set_cons_zero, List.set_cons_succ, i64_w, i32_w]
              rfl
            refine one_ (i := 7) (N := some 41) #[true, true, true, true, true, true, true, true, false] rfl rfl (by kernel_rfl) (by decide) (fun K hK => ?_)
            refine goes_ Tryz.func195 (by kernel_rfl) rfl #[.string (chars.extract 4 chars.size), .int .u8 (((⟨#[x, y, z, u]⟩ : ByteArray)[3]'(show 3 < 4 by decide)).toNat : Int)] (by rfl) rfl rfl (by (try simp only [List.map_toArray, List.map_cons, List.map_nil]); first | done | rfl | (simp [Act.eval]; exact ⟨rfl, rfl⟩)) ?_
            refine (Tryz.strings_IndexByte _ _ _).mono ?_
            rintro e w2 ⟨rfl, rfl⟩
            refine ⟨.int .i64 (-1), by rw [hnb], hK.out _ _ trivial (fun hHeld => ?_)⟩
            clear hK K
            refine norm_ (a' := ?_) ?_ ?_
            rotate_left
            · show Act.put _ (some 41) _ = _
              simp only [Act.put, List.setIfInBounds_toArray, List.set_cons_zero, List.set_cons_succ, i64_w, i32_w]
              rfl
            refine pure_ (i := 8) (N := some 11) (v := ?_) (a' := ?_) #[true, true, true, true, true, true, true, true, true] rfl rfl (by kernel_rfl) (fun _ _ _ h => h) (Or.inl ⟨by rfl, ?_⟩) ?_ ?_
            rotate_left
            · intro w'
              go_simp
              with_reducible rfl
            rotate_left
            · simp only [Act.put, List.setIfInBounds_toArray, List.set_cons_zero, List.set_cons_succ, i64_w, i32_w]
              rfl
            refine done_ (by kernel_rfl) ?_
            go_wp2
            iterate 5 (try (first | go_step3 | simp only [Exit.noGoto_ret, Exit.noGoto_normal, Exit.noGoto_exit]); (try go_wp2))
            go_ret
            exact ⟨rfl, by repeat (first | exact Below.refl _ _ | apply Go.Proofs.YtjohcncekfcgpaaGreatDoorW.PrintWords.below_drew)⟩
          · have q1 : ((3 : Int) < (chars.size : Int)) = False := eq_false (by omega)
            have q2 : (3 < chars.size) = False := eq_false hlt
            go_wp2
            iterate 5 (try (first | go_step3 | simp only [Exit.noGoto_ret, Exit.noGoto_normal, Exit.noGoto_exit]); (try go_wp2))
            go_ret
            exact ⟨rfl, Below.refl _ _⟩
end Go.Proofs.YtjohcncekfcgpaaGreatDoor.P
end
section
set_option linter.unusedVariables false
namespace Go.Proofs.YtjohcncekfcgpaaGreatDoor.P
open Go.RowKit Go.Shelf Go.Proofs.YtjohcncekfcgpaaGreatDoorW.PrintWords Go.Proofs.YtjohcncekfcgpaaGreatDoorW.PrintLast
theorem indexByte_mem : ∀ {l : List UInt8} {c : UInt8}, c ∈ l → 0 ≤ Lib.indexByte l c ∧ True
  | [], c, h => by simp at h
  | b :: l, c, h => by
    refine ⟨?_, trivial⟩
    unfold Lib.indexByte
    split
    · exact Int.le_refl _
    · rename_i hb
      have hm : c ∈ l := by
        rcases List.mem_cons.1 h with rfl | h
        · simp at hb
        · exact h
      have := (indexByte_mem hm).1
      split
      · rename_i h1; simp at h1; omega
      · omega
def asciiS (s : ByteArray) : Bool := s.data.toList.all fun b => decide (b.toNat < 128)
theorem asciiS_spec {s : ByteArray} (h : asciiS s = true) : ∀ (j : Nat) b, s.data.toList[j]? = some b → b.toNat < 128 := by
  intro j b hj
  have := List.all_eq_true.1 h b (List.mem_of_getElem? hj)
  simpa using this
def strings_IndexAny.f (a0 : ByteArray) (a1 : ByteArray) : Option (Int) :=
  if a0.size < 4294967281 ∧ a1.size < 4294967281 ∧ 2 ≤ a1.size ∧ asciiS a1 = true then some (Lib.indexAny a0.data.toList a1.data.toList) else none
theorem get_at' (s : ByteArray) (k : Nat) (hk : k < s.size) : s.get! k = s[k]'hk := by
  simp [ByteArray.get!, getElem!_pos, hk]
  rfl
set_option maxRecDepth 100000 in
theorem shouldSet (n : Nat) (w : World) : Calls Tryz.prog 140 #[.int .i64 (n : Int)] w fun e w' => e = .returned (.bool (decide ((8 : Int) < (n : Int)))) ∧ w' = w := by
  go_enter Tryz.func140, Tryz.ntmps140
  go_wp2
  go_ret
  exact ⟨by simp, rfl⟩
theorem high_bytes (s : ByteArray) (pos : Nat) (h : pos < s.size) (ha : 128 ≤ (s[pos]'h).toNat) :
    pos + (Utf8.decode s pos).2 ≤ s.size ∧ ∀ j, j < (Utf8.decode s pos).2 → ∀ (hj : pos + j < s.size), 128 ≤ (s[pos + j]'hj).toNat := by
  have hn : ¬ (s[pos]'h).toNat < 128 := by omega
  have g0 := get_at s pos h
  have gk : ∀ k (hk : pos + k < s.size), (s.get! (pos + k)).toNat = (s[pos + k]'hk).toNat := fun k hk => by rw [get_at' s (pos + k) hk]
  have one : pos + 1 ≤ s.size ∧ ∀ j, j < 1 → ∀ (hj : pos + j < s.size), 128 ≤ (s[pos + j]'hj).toNat := ⟨h, fun j hj hj2 => by
    obtain rfl : j = 0 := by omega
    exact ha⟩
  have cont : ∀ k, (decide (pos + k < s.size) && (s.get! (pos + k)).toNat / 64 == 2) = true → ∃ hk : pos + k < s.size, 128 ≤ (s[pos + k]'hk).toNat := by
    intro k hk
    simp only [Bool.and_eq_true, decide_eq_true_eq, beq_iff_eq] at hk
    refine ⟨hk.1, ?_⟩
    have := gk k hk.1
    omega
  simp only [Utf8.decode, g0, hn, if_false]
  split
  · rename_i hc
    simp only [Bool.and_eq_true] at hc
    obtain ⟨h1, b1⟩ := cont 1 (by simpa using hc.2)
    split
    · refine ⟨by omega, fun j hj hj2 => ?_⟩
      match j, hj with
      | 0, _ => exact ha
      | 1, _ => exact b1
    · exact one
  · split
    · rename_i hc
      simp only [Bool.and_eq_true] at hc
      obtain ⟨h1, b1⟩ := cont 1 (by simpa using hc.1.2)
      obtain ⟨h2, b2⟩ := cont 2 (by simpa using hc.2)
      split
      · refine ⟨by omega, fun j hj hj2 => ?_⟩
        match j, hj with
        | 0, _ => exact ha
        | 1, _ => exact b1
        | 2, _ => exact b2
      · exact one
    · split
      · rename_i hc
        simp only [Bool.and_eq_true] at hc
        obtain ⟨h1, b1⟩ := cont 1 (by simpa using hc.1.1.2)
        obtain ⟨h2, b2⟩ := cont 2 (by simpa using hc.1.2)
        obtain ⟨h3, b3⟩ := cont 3 (by simpa using hc.2)
        split
        · refine ⟨by omega, fun j hj hj2 => ?_⟩
          match j, hj with
          | 0, _ => exact ha
          | 1, _ => exact b1
          | 2, _ => exact b2
          | 3, _ => exact b3
        · exact one
      · exact one
theorem noAny_skip {s : ByteArray} {cs : List UInt8} (hcs : ∀ b ∈ cs, b.toNat < 128) {pos : Nat} (h : Lib.NoAny s.data.toList cs pos) (hp : pos < s.size) (ha : 128 ≤ (s[pos]'hp).toNat) : Lib.NoAny s.data.toList cs (pos + (Utf8.decode s pos).2) := by
  obtain ⟨hle, hb⟩ := high_bytes s pos hp ha
  intro j b hj hjb
  rcases Nat.lt_or_ge j pos with h1 | h1
  · exact h j b h1 hjb
  · obtain ⟨d, rfl⟩ := Nat.exists_eq_add_of_le h1
    have hd := hb d (by omega) (by omega)
    have hbe : b = s[pos + d]'(by omega) := by
      have := List.getElem?_eq_some_iff.1 hjb
      exact this.2.symm
    rw [← hbe] at hd
    cases hc : cs.contains b with
    | false => rfl
    | true => have := hcs b (by simpa using hc); omega
set_option maxHeartbeats 8000000 in
set_option maxRecDepth 100000 in
theorem indexAny_short (s chars : ByteArray) (w : World) (h2 : 2 ≤ chars.size) (h8 : s.size ≤ 8) (hcs : chars.size < 4294967281) (hascii : ∀ (j : Nat) b, chars.data.toList[j]? = some b → b.toNat < 128) :
    Calls Tryz.prog 83 #[.string s, .string chars] w fun e w' => e = .returned (.int .i64 (Lib.indexAny s.data.toList chars.data.toList)) ∧ Below w.heap.size w w' := by
  obtain ⟨R, hR⟩ : ∃ R, R = Lib.indexAny s.data.toList chars.data.toList := ⟨_, rfl⟩
  rw [← hR]
  have HR := Lib.hid hR; clear hR
  have HA := Lib.hid hascii
  have hemp : chars.toList.isEmpty = false := by
    rw [Lib.toList_data]
    cases h : chars.data.toList with
    | nil => have := Lib.size_eq chars; rw [h, List.length_nil] at this; omega
    | cons _ _ => rfl
  have hn1 : ((chars.size : Int) == 1) = false := beq_eq_false_iff_ne.2 (by omega)
  have h8z : decide ((8 : Int) < (s.size : Int)) = false := decide_eq_false (by omega)
  have hcs2 : ∀ b ∈ chars.data.toList, b.toNat < 128 := fun b hb => by obtain ⟨j, hj⟩ := List.mem_iff_getElem?.1 hb; exact hascii j b hj
  have HC := Lib.hid hcs2
  clear hascii hcs2
  go_enter Tryz.func83, Tryz.ntmps83
  go_wp2_with (go_at_call 140; refine (shouldSet s.size _).mono ?_; rintro e w1 ⟨rfl, hw⟩; replace hw := hw.symm; subst hw)
  go_loopw [] (fun wr => ∃ pos : Nat, pos ≤ s.size ∧ wr.heap[w.heap.size]? = some (.stringIter s pos) ∧ Below w.heap.size w wr ∧ Hid (Lib.NoAny s.data.toList chars.data.toList pos)) (fun wr => s.size - wr.iterPos w.heap.size)
  case atStart =>
    refine ⟨0, Nat.zero_le _, ?_, (Below.refl _ w).alloc (Nat.le_refl _) _, Lib.hid (Lib.NoAny.zero _ _)⟩
    have := World.iter_heap w s 0
    simpa using this
  case round =>
    obtain ⟨pos, hpos, hit, hbw, HN⟩ := hrel
    have hsz : w.heap.size < wr.heap.size := (Array.getElem?_eq_some_iff.1 hit).1
    by_cases hp : pos < s.size
    · have hnx : ∀ ty, (Instr.next (.pointer (some ⟨w.heap.size, 0, none⟩)) true ty).run Tryz.prog wr = _ := fun ty => Lib.run_next_any_at wr w.heap.size s pos ty hit hp
      have hit2 := Lib.iterAt_heap wr w.heap.size s pos (pos + (Utf8.decode s pos).2) hit
      have hbw2 := Lib.below_iterAt hbw (k := w.heap.size) (by omega) s (pos + (Utf8.decode s pos).2)
      have hx : s.data.toList[pos]? = some s[pos] := by rw [List.getElem?_eq_getElem (by simpa using hp)]; rfl
      by_cases ha : (s[pos]).toNat < 128
      · have hd := decode_ascii s pos hp ha
        rw [hd] at hnx hit2 hbw2
        have hir := Tryz.strings_IndexRune_ascii chars (s[pos].toNat : Int) (wr.iterAt w.heap.size s (pos + 1)) (by omega) (by omega)
        have e8 : ((s[pos].toNat : Int)).toNat.toUInt8 = s[pos] := by simp
        rw [e8] at hir
        have HI := Lib.hid hir
        clear hir hd
        by_cases hin : s[pos] ∈ chars.data.toList
        · have hge := (indexByte_mem hin).1
          have hR : R = pos := by rw [HR.out]; exact Lib.indexAny_hit HN.out hx (by simpa using hin)
          have hq : decide (0 ≤ Lib.indexByte chars.data.toList s[pos]) = true := decide_eq_true hge
          clear hin hge hx
          go_wp2_with (go_at_call 139; refine HI.out.mono ?_; rintro e w2 ⟨rfl, hw⟩; subst hw)
          go_ret
          exact ⟨by rw [hR]; rfl, hbw2⟩
        · have hge := indexByte_not hin
          have hN2 := HN.out.succ hx (by simpa using hin)
          have HN2 := Lib.hid hN2
          rw [hge] at HI
          clear hin hge hx hN2
          go_wp2_with (go_at_call 139; refine HI.out.mono ?_; rintro e w2 ⟨rfl, hw⟩; subst hw)
          go_roundw
          case rel => exact ⟨pos + 1, by omega, hit2, hbw2, HN2⟩
          case measure =>
            have e0 : wr.iterPos w.heap.size = pos := by simp only [World.iterPos, hit]
            have e1 : (wr.iterAt w.heap.size s (pos + 1)).iterPos w.heap.size = pos + 1 := by simp only [World.iterPos, hit2]
            rw [e0, e1]
            omega
      · have hhi := (decode_high s pos hp (by omega))
        have hle := decode_le s pos
        have hby := high_bytes s pos hp (by omega)
        have HN2 := Lib.hid (noAny_skip HC.out HN.out hp (by omega))
        obtain ⟨D, hD⟩ : ∃ D, D = Utf8.decode s pos := ⟨_, rfl⟩
        rw [← hD] at hnx hit2 hbw2 hhi hle hby HN2
        obtain ⟨r, wd⟩ := D
        simp only at hnx hit2 hbw2 hhi hle hby HN2
        have hpw := hby.1
        have h1w := hhi.2
        have HI := Lib.hid (indexRune_high chars (r : Int) (wr.iterAt w.heap.size s (pos + wd)) hcs HA.out (by omega) (by omega))
        clear hD hby hhi hx
        go_wp2_with (go_at_call 139; refine HI.out.mono ?_; rintro e w2 ⟨rfl, hb2⟩)
        go_roundw
        case rel => exact ⟨pos + wd, hpw, (hb2.block _ (by simpa using (Array.getElem?_eq_some_iff.1 hit2).1)).trans hit2, below_then hbw2 hbw2.size hb2, HN2⟩
        case measure =>
          have hit3 := (hb2.block _ (by simpa using (Array.getElem?_eq_some_iff.1 hit2).1)).trans hit2
          have e0 : wr.iterPos w.heap.size = pos := by simp only [World.iterPos, hit]
          have e1 : w2.iterPos w.heap.size = pos + wd := by simp only [World.iterPos, hit3]
          rw [e0, e1]
          omega
    · have hnx : ∀ ty, (Instr.next (.pointer (some ⟨w.heap.size, 0, none⟩)) true ty).run Tryz.prog wr = _ := fun ty => Lib.run_next_end_at wr w.heap.size s pos ty hit hp
      have hR : R = -1 := by
        rw [HR.out]
        refine Lib.indexAny_none ?_
        have := HN.out
        have hl0 : s.data.toList.length = s.size := by simp
        have hl : s.data.toList.length = pos := by omega
        rwa [hl]
      go_wp2
      go_ret
      exact ⟨by rw [hR]; rfl, hbw⟩
theorem strings_IndexAny.calls (a0 : ByteArray) (a1 : ByteArray) (r : Int) (w : World) (h : strings_IndexAny.f a0 a1 = some r) :
    Calls Tryz.prog 83 #[.string a0, .string a1] w fun e w' => e = .returned (.int .i64 r) ∧ Below w.heap.size w w' := by
  unfold strings_IndexAny.f at h
  split at h
  · rename_i hh
    obtain ⟨h1, h2, h3, h4⟩ := hh
    obtain rfl := Option.some.inj h
    by_cases h8 : a0.size ≤ 8
    · exact indexAny_short a0 a1 w h3 h8 h2 (asciiS_spec h4)
    · refine (Tryz.strings_IndexAny_long (zero_of_info (show (Tryz.prog.info? 176).map (fun i => (i.zero, i.size)) = some (some (.agg (Array.replicate 256 (.bool false))), 256) by kernel_rfl)).1 a0 a1 w h3 (by omega) h1 h2 (asciiS_spec h4)).mono fun e w' ⟨he, hw⟩ => ⟨he, ?_⟩
      rw [hw]
      exact below_alloc (below_alloc (Below.refl _ _) _) _
  · exact absurd h (by simp)
end Go.Proofs.YtjohcncekfcgpaaGreatDoor.P
end
section
set_option linter.unusedVariables false
namespace Go.Proofs.YtjohcncekfcgpaaGreatDoor.P
open Go.RowKit Go.Shelf
attribute [local go_sem] Oper.semAt_some
def KeepB (ks : List Nat) (X Y : World) : Prop := X.heap.size ≤ Y.heap.size ∧ ∀ k ∈ ks, k < X.heap.size → Y.heap[k]? = X.heap[k]?
theorem KeepB.t {ks : List Nat} {A B C : World} (h : KeepB ks A B) (k : KeepB ks B C) : KeepB ks A C :=
  ⟨Nat.le_trans h.1 k.1, fun j hj hl => (k.2 j hj (Nat.lt_of_lt_of_le hl h.1)).trans (h.2 j hj hl)⟩
theorem KeepB.b {ks : List Nat} {w : World} (hk : ∀ k ∈ ks, k < w.heap.size) (W : World) (l : Nat) (o o' : Obj) (hl : w.heap.size ≤ l) (h : W.heap[l]? = some o) (_ : o.isCells = false) (_ : o.isWalk = false) : KeepB ks W (W.putObj l o') :=
  ⟨by have := (grownBy_putObj' W l o').size; exact this, fun k hm _ => World.putObj_heap_other (by have := hk k hm; omega)⟩
theorem KeepB.at {ks : List Nat} {A B : World} (h : KeepB ks A B) {k : Nat} (hk : k ∈ ks) {o : Obj} (ho : A.heap[k]? = some o) : B.heap[k]? = some o :=
  (h.2 k hk (Array.getElem?_eq_some_iff.1 ho).1).trans ho
def restAt (st : Nat) (W : World) : Nat := match W.cell? ⟨st, 0, none⟩ with
  | some (Value.string r) => r.size
  | _ => 0
theorem restAt_eq {st : Nat} {W : World} {r : ByteArray} {t : TypeId} (h : W.heap[st]? = some (.cells #[.string r] t (0, 0))) : restAt st W = r.size := by
  have : W.cell? ⟨st, 0, none⟩ = some (.string r) := by simp [World.cell?, h]
  simp [restAt, this]
def MaxB (W : World) : Prop := ∃ m : Int, ∃ cs t fr, W.heap[0]? = some (.cells cs t fr) ∧ cs[0]? = some (.int .i64 m)
theorem heap_set0 {W : World} {b : Nat} {v : Value} {t : TypeId} (u : Value) (fr : Nat × Nat) (h : W.heap[b]? = some (.cells #[v] t fr)) : (W.setCell ⟨b, 0, none⟩ u).heap[b]? = some (.cells #[u] t fr) := by
  simp [World.setCell, Array.getElem?_modify, h]
theorem MaxB.gu {W : World} (h : MaxB W) : ∃ m : Int, W.cell? ⟨0, 0, none⟩ = some (.int .i64 m) := by
  obtain ⟨m, cs, t, fr, h, hc⟩ := h
  exact ⟨m, by simp [World.cell?, h, hc]⟩
theorem MaxB.same {V W : World} (h : MaxB V) (hb : ∀ o, V.heap[0]? = some o → W.heap[0]? = some o) : MaxB W := by
  obtain ⟨m, cs, t, fr, h, hc⟩ := h
  exact ⟨m, cs, t, fr, hb _ h, hc⟩
theorem splitB_len (sep : ByteArray) : ∀ (k : Nat) (s : ByteArray), 0 < (Lib.splitB sep 0 k s).length
  | 0, _ => by simp [Lib.splitB]
  | k + 1, s => by unfold Lib.splitB; split <;> simp
set_option maxRecDepth 100000 in
set_option maxHeartbeats 2000000 in
theorem splitSeq1_in (n : Nat) (hn : 1 ≤ n) (l st sb zb : Nat) (s0 sep : ByteArray) (hs0 : s0.size < 4294967281) (hsep : 1 ≤ sep.size) (hss : sep.size < 4294967281) (hne1 : st ≠ sb) (hne2 : st ≠ zb) (hne3 : st ≠ 0) (J Jx : List ByteArray → World → Prop) (W : World)
    (hJ : AbS W.heap.size st J) (hJx : AbS W.heap.size st Jx)
    (hY : ∀ pre x W1, J pre W1 → (pre ++ [x]) <+: Lib.splitB sep 0 s0.size s0 → YieldAt Fence.wide (n - 1) Tryz.prog l #[.string x] W1 fun e W' =>
      (e = .returned (.bool true) ∧ J (pre ++ [x]) W' ∧ KeepB [0, sb, st, zb] W1 W') ∨ (e = .returned (.bool false) ∧ Jx (pre ++ [x]) W'))
    (hst : W.heap[st]? = some (.cells #[.string s0] 9 (0, 0))) (hsb : W.heap[sb]? = some (.cells #[.string sep] 9 (0, 0))) (hzb : W.heap[zb]? = some (.cells #[.int .i64 0] 3 (0, 0))) (hM : MaxB W) (h0 : J [] W) :
    CallsIn Fence.wide n Tryz.prog 186 #[.func (.yield l) #[] #[], .pointer (some ⟨sb, 0, none⟩), .pointer (some ⟨st, 0, none⟩), .pointer (some ⟨zb, 0, none⟩)] W fun e W' => (∃ v, e = .returned v) ∧
      ((∃ ys, ys = Lib.splitB sep 0 s0.size s0 ∧ J ys W') ∨ (∃ pre, pre <+: Lib.splitB sep 0 s0.size s0 ∧ Jx pre W')) := by
  refine callsIn_of_wp Tryz.func186 rfl trivial ?_ rfl
  simp only [Tryz.ntmps186, List.size_toArray, List.length_cons, List.length_nil, Nat.reduceAdd, Nat.reduceSub, Array.replicate_succ, Array.replicate_zero, List.push_toArray, List.append_toArray, List.nil_append, List.cons_append]
  have cb : W.cell? ⟨sb, 0, none⟩ = some (.string sep) := by simp [World.cell?, hsb]
  have hsep0 : ((sep.size : Int) == 0) = false := by rw [beq_eq_false_iff_ne]; omega
  gi_wp2
  gi_loopw [] (fun wr => ∃ (pre : List ByteArray) (rest : ByteArray) (f : Nat), wr.heap[st]? = some (.cells #[.string rest] 9 (0, 0)) ∧ wr.heap[sb]? = some (.cells #[.string sep] 9 (0, 0)) ∧ wr.heap[zb]? = some (.cells #[.int .i64 0] 3 (0, 0)) ∧ MaxB wr ∧ W.heap.size ≤ wr.heap.size ∧ rest.size ≤ f ∧ rest.size ≤ s0.size ∧ Hid (pre ++ Lib.splitB sep 0 f rest = Lib.splitB sep 0 s0.size s0) ∧ J pre wr)
    (fun wr => restAt st wr)
  case atStart =>
    exact ⟨[], s0, s0.size, hst, hsb, hzb, hM, Nat.le_refl _, Nat.le_refl _, Nat.le_refl _, Lib.hid rfl, h0⟩
  case round =>
    obtain ⟨pre, rest, f, h1, h2, h3, h4, hsz, hf, hr0, HP, hJs⟩ := hrel
    have c1 : wr.cell? ⟨st, 0, none⟩ = some (.string rest) := by simp [World.cell?, h1]
    have c2 : wr.cell? ⟨sb, 0, none⟩ = some (.string sep) := by simp [World.cell?, h2]
    have c3 : wr.cell? ⟨zb, 0, none⟩ = some (.int .i64 0) := by simp [World.cell?, h3]
    obtain ⟨m, hm⟩ := h4.gu
    have hr1 : rest.size < 4294967281 := by omega
    rcases Lib.indexB_cases rest sep with hmiss | ⟨i, hi, hroom⟩
    ·
      have hP : pre ++ [rest] = Lib.splitB sep 0 s0.size s0 := by rw [← HP.out, Lib.splitB_miss _ _ _ _ hmiss]
      have hlen : (pre ++ [rest]) <+: Lib.splitB sep 0 s0.size s0 := by rw [hP]; exact List.prefix_refl _
      have HQ := Lib.hid hP; clear hP
      have hidx : Lib.index rest.data.toList sep.data.toList = -1 := hmiss
      have HX := Lib.hid hidx; clear hidx hmiss
      obtain ⟨fn, tmps, assign, body, hy, hR⟩ := hY pre rest wr hJs hlen
      gi_wp2_with (refine ⟨trivial, ?_⟩; gi_at_call 170; refine (callsIn_wide.2 (Tryz.strings_Index rest sep m _ hr1 hm)).mono ?_; rw [HX.out]; rintro e w' ⟨rfl, rfl⟩)
      refine hR.mono ?_
      rintro e W3 (⟨rfl, hJ3, hk3⟩ | ⟨rfl, hJx3⟩)
      · gi_wp2
        go_end0
        exact ⟨⟨_, rfl⟩, .inl ⟨_, HQ.out, hJ3⟩⟩
      · gi_wp2
        go_end0
        exact ⟨⟨_, rfl⟩, .inr ⟨pre ++ [rest], ⟨[], by rw [List.append_nil]; exact HQ.out⟩, hJx3⟩⟩
    ·
      have hidx : Lib.index rest.data.toList sep.data.toList = (i : Int) := hi
      have HX := Lib.hid hidx; clear hidx
      obtain ⟨f', rfl⟩ : ∃ f', f = f' + 1 := ⟨f - 1, by omega⟩
      have hP : (pre ++ [rest.extract 0 i]) ++ Lib.splitB sep 0 f' (rest.extract (i + sep.size) rest.size) = Lib.splitB sep 0 s0.size s0 := by
        rw [← HP.out, Lib.splitB_hit _ _ _ _ i hi]; simp
      have hlen : (pre ++ [rest.extract 0 i]) <+: Lib.splitB sep 0 s0.size s0 := ⟨_, hP⟩
      have HQ := Lib.hid hP; clear hP hi
      have hi9 : (i : Int) ≤ 4294967281 := by omega
      obtain ⟨fn, tmps, assign, body, hy, hR⟩ := hY pre (rest.extract 0 i) wr hJs hlen
      gi_wp2_with (refine ⟨trivial, ?_⟩; gi_at_call 170; refine (callsIn_wide.2 (Tryz.strings_Index rest sep m _ hr1 hm)).mono ?_; rw [HX.out]; rintro e w' ⟨rfl, rfl⟩)
      refine hR.mono ?_
      rintro e W3 (⟨rfl, hJ3, hk3⟩ | ⟨rfl, hJx3⟩)
      · have k1 := hk3.at (k := st) (by simp) h1
        have k2 := hk3.at (k := sb) (by simp) h2
        have k3 := hk3.at (k := zb) (by simp) h3
        have k4 : MaxB W3 := h4.same (fun o ho => hk3.at (by simp) ho)
        have d1 : W3.cell? ⟨st, 0, none⟩ = some (.string rest) := by simp [World.cell?, k1]
        have d2 : W3.cell? ⟨sb, 0, none⟩ = some (.string sep) := by simp [World.cell?, k2]
        have d3 : W3.frozen? ⟨st, 0, none⟩ = false := by simp [World.frozen?, k1]
        have hz3 := hk3.1
        gi_wp2
        go_roundw
        case rel =>
          refine ⟨pre ++ [rest.extract 0 i], rest.extract (i + sep.size) rest.size, f', ?_, ?_, ?_, ?_, ?_, ?_, ?_, HQ, ?_⟩
          · rw [heap_set0 _ _ k1]
          · rw [Below.heap_setCell _ _ _ _ (Ne.symm hne1)]; exact k2
          · rw [Below.heap_setCell _ _ _ _ (Ne.symm hne2)]; exact k3
          · exact k4.same (fun o ho => by rw [Below.heap_setCell _ _ _ _ (Ne.symm hne3)]; exact ho)
          · simp; omega
          · simp; omega
          · simp; omega
          · exact hJ _ W3 _ (some st) hJ3 (grownBy_setCell' W3 st _) (fun r e => by cases e; exact .inl rfl)
        case measure =>
          rw [restAt_eq h1, restAt_eq (heap_set0 _ _ k1)]
          simp; omega
      · gi_wp2
        refine bodyPost_ret (results_none rfl _ _ _) rfl ?_
        exact ⟨⟨_, rfl⟩, .inr ⟨pre ++ [rest.extract 0 i], ⟨_, HQ.out⟩, hJx3⟩⟩
theorem GU.maxB {w : World} (h : GU w) : MaxB w := by
  obtain ⟨m, hm⟩ := h.maxLen
  unfold World.cell? at hm
  split at hm
  · rename_i cs t fr hb
    exact ⟨m, cs, t, fr, hb, hm⟩
  · cases hm
theorem SplitSeq_in (s sep : ByteArray) (w : World) :
    Calls Tryz.prog 76 #[.string s, .string sep] w fun e w' => e = .returned (.func (.func 186) #[] #[.pointer (some ⟨w.heap.size + 1, 0, none⟩), .pointer (some ⟨w.heap.size, 0, none⟩), .pointer (some ⟨w.heap.size + 2, 0, none⟩)]) ∧
      w' = ((w.alloc (.cells #[.string s] 9)).alloc (.cells #[.string sep] 9)).alloc (.cells #[.int .i64 0] 3) := by
  have h1 : Calls Tryz.prog 131 #[.string s, .string sep, .int .i64 0] w fun e w' => e = .returned (.func (.func 186) #[] #[.pointer (some ⟨w.heap.size + 1, 0, none⟩), .pointer (some ⟨w.heap.size, 0, none⟩), .pointer (some ⟨w.heap.size + 2, 0, none⟩)]) ∧
      w' = ((w.alloc (.cells #[.string s] 9)).alloc (.cells #[.string sep] 9)).alloc (.cells #[.int .i64 0] 3) := by
    go_enter Tryz.func131, Tryz.ntmps131
    go_wp2
    go_ret
    exact ⟨rfl, rfl⟩
  go_enter Tryz.func76, Tryz.ntmps76
  go_wp2_with (go_at_call 131; refine h1.mono ?_; rintro e w' ⟨rfl, rfl⟩)
  go_ret
  exact ⟨rfl, rfl⟩
theorem split_blocks (V : World) (s sep : ByteArray) :
    (((V.alloc (.cells #[.string s] 9)).alloc (.cells #[.string sep] 9)).alloc (.cells #[.int .i64 0] 3)).heap[V.heap.size]? = some (.cells #[.string s] 9 (0, 0)) ∧
    (((V.alloc (.cells #[.string s] 9)).alloc (.cells #[.string sep] 9)).alloc (.cells #[.int .i64 0] 3)).heap[V.heap.size + 1]? = some (.cells #[.string sep] 9 (0, 0)) ∧
    (((V.alloc (.cells #[.string s] 9)).alloc (.cells #[.string sep] 9)).alloc (.cells #[.int .i64 0] 3)).heap[V.heap.size + 2]? = some (.cells #[.int .i64 0] 3 (0, 0)) ∧
    (((V.alloc (.cells #[.string s] 9)).alloc (.cells #[.string sep] 9)).alloc (.cells #[.int .i64 0] 3)).heap.size = V.heap.size + 3 ∧
    ∀ k, k < V.heap.size → (((V.alloc (.cells #[.string s] 9)).alloc (.cells #[.string sep] 9)).alloc (.cells #[.int .i64 0] 3)).heap[k]? = V.heap[k]? := by
  have a1 := World.alloc_heap_new V (.cells #[.string s] 9)
  have a2 := World.alloc_heap_new (V.alloc (.cells #[.string s] 9)) (.cells #[.string sep] 9)
  have a3 := World.alloc_heap_new ((V.alloc (.cells #[.string s] 9)).alloc (.cells #[.string sep] 9)) (.cells #[.int .i64 0] 3)
  simp only [World.size_alloc] at a2 a3
  refine ⟨?_, ?_, a3, by simp only [World.size_alloc], fun k hk => ?_⟩
  · rw [Below.heap_alloc _ _ _ (by simp; omega), Below.heap_alloc _ _ _ (by simp)]; exact a1
  · rw [Below.heap_alloc _ _ _ (by simp)]; exact a2
  · rw [Below.heap_alloc _ _ _ (by simp; omega), Below.heap_alloc _ _ _ (by simp; omega), Below.heap_alloc _ _ _ hk]
theorem abs_word {β : Type} {B st b : Nat} {w : World} {p : β → Prop} {o : β → Obj} (hb : b ≠ st) (hbB : b < B) (hn : w.heap.size ≤ st) (hnB : w.heap.size ≤ B) :
    AbS B st (fun (s : β) W => p s ∧ W.heap[b]? = some (o s) ∧ Below w.heap.size w W) := by
  intro s X Y row hs hg hr
  refine ⟨hs.1, (hg.block b (Array.getElem?_eq_some_iff.1 hs.2.1).1 (fun e => ?_)).trans hs.2.1, hs.2.2.grown hg hs.2.2.size (fun k e => ?_)⟩
  · rcases hr b e.symm with e2 | ⟨e2, _⟩
    · exact hb e2
    · omega
  · rcases hr k e with e2 | ⟨e2, _⟩
    · omega
    · omega
theorem abs_word2 {β : Type} {B st b c : Nat} {w : World} {p : β → Prop} {o u : β → Obj} (hb : b ≠ st) (hbB : b < B) (hc : c ≠ st) (hcB : c < B) (hn : w.heap.size ≤ st) (hnB : w.heap.size ≤ B) :
    AbS B st (fun (s : β) W => p s ∧ W.heap[b]? = some (o s) ∧ W.heap[c]? = some (u s) ∧ Below w.heap.size w W) := by
  intro s X Y row hs hg hr
  have h1 := abs_word (p := p) (o := o) hb hbB hn hnB s X Y row ⟨hs.1, hs.2.1, hs.2.2.2⟩ hg hr
  have h2 := abs_word (p := p) (o := u) hc hcB hn hnB s X Y row ⟨hs.1, hs.2.2.1, hs.2.2.2⟩ hg hr
  exact ⟨hs.1, h1.2.1, h2.2.1, h1.2.2⟩
theorem splitSeq_st (n : Nat) (hn : 1 ≤ n) (st sb zb : Nat) (s0 sep : ByteArray) (hs0 : s0.size < 4294967281) (hsep : 1 ≤ sep.size) (hss : sep.size < 4294967281) (hne1 : st ≠ sb) (hne2 : st ≠ zb) (hne3 : st ≠ 0) (w : World)
    (hst : w.heap[st]? = some (.cells #[.string s0] 9 (0, 0))) (hsb : w.heap[sb]? = some (.cells #[.string sep] 9 (0, 0))) (hzb : w.heap[zb]? = some (.cells #[.int .i64 0] 3 (0, 0))) (hM : MaxB w) :
    SeqSt Fence.wide n Tryz.prog 186 #[.pointer (some ⟨sb, 0, none⟩), .pointer (some ⟨st, 0, none⟩), .pointer (some ⟨zb, 0, none⟩)] (fun x : ByteArray => #[Value.string x]) (KeepB [0, sb, st, zb]) st (fun ys => ys = Lib.splitB sep 0 s0.size s0) (fun pre => pre <+: Lib.splitB sep 0 s0.size s0) (fun pre x => (pre ++ [x]) <+: Lib.splitB sep 0 s0.size s0) w := fun l J Jx W hW hJ hJx hY h0 =>
  splitSeq1_in n hn l st sb zb s0 sep hs0 hsep hss hne1 hne2 hne3 J Jx W hJ hJx hY ((hW.block _ (Array.getElem?_eq_some_iff.1 hst).1).trans hst) ((hW.block _ (Array.getElem?_eq_some_iff.1 hsb).1).trans hsb) ((hW.block _ (Array.getElem?_eq_some_iff.1 hzb).1).trans hzb)
    (hM.same fun o ho => (hW.block _ (Array.getElem?_eq_some_iff.1 ho).1).trans ho) h0
end Go.Proofs.YtjohcncekfcgpaaGreatDoor.P
end
